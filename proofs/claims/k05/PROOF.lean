import PyProof.Rows.All
import Wide.All
import OpenK.AllK
import Wide.FinOn
import HandS.Lambda
import HandS.HeadHook4
import HandS.Words
import KE.KStateDown
import HandS.Head0
import HandS.Head1
import HandS.Head2
import HandS.HeadEnd
import HandS.HeadWalk
import HandS.ForMost
import HandS.ForExc
import HandS.TupAny
import HandS.Flow
import HandS.Deep
import HandS.Zip
import KE.GoesEnum
import HandS.ExcCtx
import HandS.ExcInit
import HandS.CallSlots
import HandS.IsInst
import KE.SortData
import HandS.Small
import HandS.Style
import HandS.DictComp
import KE.KDictPairs
import HandS.SortInts
import HandS.ExcOwn
import HandS.ExcIs
import HandS.ExcField
import OpenK.KDescr
import HandS.Defaults
import KE.SortKeyHeap
import HandS.SortKw
import HandS.Iter
import HandS.Comp
import HandS.RaiseMore
import HandS.SetKeys
import HandS.MakeKwOnly
import KE.DataMinMax
import KE.KLam
import HandS.Exc
import HandS.ClsMeth
import PyProof.MaxThree
import HandS.Flt
import HandS.ListItems
import HandS.DictTup
import HandS.Strs
import HandS.TryOnly
import HandS.More
import PyProof.Rows.StrMeet
import HandS.Finally
import HandS.SuiteRaise
import HandS.HotCalls
import HandS.Hot
import PyProof.CollectIter
import HandS.HeadHook3
import KE.KDictCopyH
import PyProof.NeKinds
import HandS.NoneIn
import HandS.ListEq
import HandS.DeepEq
import KE.GoesZip
import KE.GoesMore
import KE.KDictZip
import HandS.ExcValue
import HandS.FStr
import HandS.Text
import HandS.TupSets
import KE.KeyNested
import HandS.SetFor
import HandS.TupLen
import PySem.Challenge.RW_airhouse_k05_the_fewest_planes
set_option Elab.async false
set_option linter.all false
namespace DL
open PySem PySem.Spec PyProof.Rows L2
def lamDefs:List ((Str × Option Str) × Str):=[(("Net",some "all_rides"),"Net.all_rides.<locals>.<lambda>"),(("law",none),"law.<locals>.<lambda>")]
/-- their tables of code objects -/
def tbs (K:PySem.W.Frag):List (Addr × Str):=lamDefs.map fun p=>(He.tabOf K (He.codeOf K p.1),p.2)
end DL
set_option maxRecDepth 100000
namespace DL
open PySem PySem.Spec PyProof.Rows L2 LamX
def kinds:List Str:=["BadNet","BadFleet","BadClasses","BadDay","BadPlace","BadTime","BadCount","BadChain","NoDuty","NoLeg","NoPlane","NoKind","Taken","CannotFly","NoWay","NoSeat","NoClass","BadName","NoBooking","Left","Unmended","BadDeed","BadText"]
/-- the fields of the errors that have some,the last one first -/
def fF (C:Str):List Str:=
  if C="BadNet"∨C="BadFleet" then ["number","part"] else if C="BadClasses"∨C="BadDeed" then ["number"] else if C="BadText" then ["row"] else []
/-- the classes' facts,looked at -/
def excB (K:PySem.W.Frag) (D:Addr):Bool:=He.eqO (PySem.W.findIn K (.ref D) "__getattribute__") (some (some (.builtin "BaseException.__getattribute__")))&&He.eqO (PySem.W.findIn K (.ref D) "__getattr__") (some none) &&
  decide (PySem.W.subIn K (.ref D) (.type "BaseException")=some true)&&PySem.W.hasDictIn K D&&He.eqO (PySem.W.findIn K (.ref D) "__class__") (some (some (.builtin "object.__class__"))) &&
  He.eqO (PySem.W.specialIn K (.builtin "object.__class__") "__get__") (some (some (.builtin "getset_descriptor.__get__")))&&decide (PySem.W.takesIn K (.builtin "object.__class__")=some true)&&decide (PySem.W.mroIn K D (.type "object")=some true)
def pv (K:PySem.W.Frag) (cs:List Str):Bool:=(cs.all fun C=>kinds.contains C&&(kinds.all fun y=>decide (PySem.W.kitOne K (.ref (He.ga K C)) (.ref (He.ga K y))=some (decide (y=C))))&&decide (PySem.W.kitOne K (.ref (He.ga K C)) (.type "ValueError")=some true)&&excB K (He.ga K C)&&(fF C).all fun n=>He.eqO (PySem.W.findIn K (.ref (He.ga K C)) n) (some none))
def uO (K:PySem.W.Frag):Bool:=lamDefs.all fun p=>(tbs K).all fun r=>!(decide (r.1=(He.cT K p.1).2))||decide (r.2=p.2)
def clVB (K:PySem.W.Frag) (A:Addr) (m:Str) (v:Value):Bool:=PySem.W.readsIn K A (.type "type")&&He.eqO (PySem.W.specialIn K (.ref A) "__getattribute__") (some (some (.builtin "type.__getattribute__"))) &&
  (match PySem.W.findCls K (.ref A) (.type "type") m with
  | some (.val u)=>decide (u=v)
  | _=>false)
def oexB (K:PySem.W.Frag) (C:Addr):Bool:=(match K.lookup C with
  | some ⟨.type "type",_,.cls cd,sl⟩=>(match cd.mro,sl.toList with
    | .ref C'::bm,[_,_,_,_,some (.builtin n),_]=>C' == C&&n == "ValueError.__new__"&&!cd.hasDel&&cd.hasDict&&PySem.HandSPX.refsVE bm
    | _,_=>false)
  | _=>false)&&He.eqO (PySem.W.findIn K (.ref C) "__setattr__") (some (some (.builtin "object.__setattr__")))&&decide (PySem.W.subIn K (.ref C) (.type "BaseException")=some true)&&decide (PySem.W.typeIn K (.ref C)=some (.type "type"))&&PySem.W.keepIn K (.ref C)
def xX (K:PySem.W.Frag) (C fI A:Addr) (ns:List Str):Bool:=oexB K C&&He.eqO (PySem.W.findIn K (.ref C) "__init__") (some (some (.ref fI)))&&decide (PySem.W.typeIn K (.ref fI)=some (.type "function")) &&
  (ns.all fun n=>He.eqO (PySem.W.findIn K (.ref C) n) (some none))&&clVB K A "__init__" (.builtin "ValueError.__init__")
end DL
namespace DL
open PySem
end DL
namespace DL
open PySem PySem.Spec PyProof.Rows L2 He
def valsF (g:Addr→Option Obj) (n:Addr):List Addr:=match g n with
  | some ⟨_,_,.dict es _,_⟩=>es.toList.flatMap fun e=>refV e.val
  | _=>[]
def nsF (g:Addr→Option Obj) (a:Addr):List Addr:=match g a with
  | some ⟨_,_,.cls cd,_⟩=>[cd.ns]
  | _=>[]
def cdF (g:Addr→Option Obj) (a:Addr):List Addr:=match g a with
  | some ⟨_,_,.func fd,_⟩=>refV fd.code++(refV fd.kwdefaults++refV fd.defaults)
  | _=>[]
def asF (g:Addr→Option Obj):List Addr:=
  (fun gl=>(fun ns=>(fun ms=>mainGlobals::cStatics::(gl++(ns++(ms++(gl++ms).flatMap (cdF g))))) (ns.flatMap (valsF g))) (gl.flatMap (nsF g))) (valsF g mainGlobals)
def obsF (fa:List Fa) (fn:List DefD) (ts:List Tab) (tf:List Defn) (ex:PySem.W.Frag→Bool) (g:Addr→Option Obj):AlX:=(fun K=>(obsT fa fn ts K,ex K&&tabsB g tf K)) (frT g (asF g))
theorem xY {fa:List Fa} {fn:List DefD} {ts:List Tab} {tf:List Defn} {ex:PySem.W.Frag→Bool} {w:World} {h:Heap} (e:obsF fa fn ts tf ex h.get?=valX fn ts w):SaysX fa fn ts tf ex w h (frT h.get? (asF h.get?)):=by
  have e1:obsT fa fn ts (frT h.get? (asF h.get?))=valT fn ts w:=congrArg (fun z:AlX=>z.1) e
  have e2:(ex (frT h.get? (asF h.get?))&&tabsB h.get? tf (frT h.get? (asF h.get?)))=true:=congrArg (fun z:AlX=>z.2) e
  obtain ⟨h1,h2⟩:=ba e2
  have key:∀p∈tf,PySem.W.codeHdIn (frT h.get? (asF h.get?)) (cT (frT h.get? (asF h.get?)) p).1 (cT (frT h.get? (asF h.get?)) p).2=true∧∃o,h.get? (cT (frT h.get? (asF h.get?)) p).2=some o∧emptyTab o=true:=fun p hp=>by
    obtain ⟨h3,h4⟩:=ba (List.all_eq_true.mp h2 p hp)
    refine ⟨h3,?_⟩
    cases q:h.get? (cT (frT h.get? (asF h.get?)) p).2 with
    | none=>
      rw[q] at h4
      cases h4
    | some o=>
      rw[q] at h4
      exact ⟨o,rfl,h4⟩
  exact ⟨e1,h1,fun p hp=>(key p hp).1,fun p hp=>by
    obtain ⟨_,o,q,z⟩:=key p hp
    exact frT_none q z,fun p hp=>by
    obtain ⟨_,o,q,z⟩:=key p hp
    rw[q,emptyTab_eq z]⟩
def hookF (fa:List Fa) (fn:List DefD) (ts:List Tab) (tf:List Defn) (ex:PySem.W.Frag→Bool):PySem.W.Hook where
  α:=AlX
  obs:=fun s=>obsF fa fn ts tf ex s.heap.get?
  val:=fun w=>valX fn ts w
  says:=fun w h=>∃K:PySem.W.Frag,K.In h∧SaysX fa fn ts tf ex w h K
  of:=fun _ _ e=>⟨_,frT_in,xY e⟩
  keeps:=fun _ _ _ ⟨K,hK,c⟩ k=>⟨K,PySem.W.Frag.In.keeps hK k,⟨c.t,c.more,c.hd,c.out,fun p hp=>k _ _ (c.empty p hp)⟩⟩
theorem zX {fa:List Fa} {fn:List DefD} {ts:List Tab} {tf:List Defn} {ex:PySem.W.Frag→Bool} {g:Addr→Option Obj} {s:Shared} (h:∀a,g a=s.heap.get? a):obsF fa fn ts tf ex g=(hookF fa fn ts tf ex).obs s:=by
  have e:g=s.heap.get?:=funext h
  rw[e]<;>rfl
end DL
namespace DL
open PySem PySem.Spec PyProof.Rows L2 LamX
abbrev top (i:Nat):Stmt:=PySem.Challenge.pw_airhouse_k05_the_fewest_planes.main.body.getD i (.Pass ⟨0,0,0,0⟩)
/-- the errors that are raised -/
def kindsHere:List Str:=["BadDay","BadCount","BadNet"]
end DL
set_option maxHeartbeats 0
namespace DL
open PySem PySem.Spec PyProof.Rows L2 LamX
def iA:He.DefD:=⟨("Matcher",some "cover"),"cover","Matcher.cover",defArgs (inClass (top 53) 3),defBody (inClass (top 53) 3),defScope (inClass (top 53) 3),[],[]⟩
def gT:He.DefD:=⟨("Matcher",some "chains"),"chains","Matcher.chains",defArgs (inClass (top 53) 2),defBody (inClass (top 53) 2),defScope (inClass (top 53) 2),[],[]⟩
def lK:He.DefD:=⟨("Net",some "leave"),"leave","Net.leave",defArgs (inClass (top 46) 7),defBody (inClass (top 46) 7),defScope (inClass (top 46) 7),[],[]⟩
def d_is_number:He.DefD:=⟨("is_number",none),"is_number","is_number",defArgs (top 40),defBody (top 40),defScope (top 40),[],[]⟩
def mM:He.DefD:=⟨("Net",some "goes"),"goes","Net.goes",defArgs (inClass (top 46) 1),defBody (inClass (top 46) 1),defScope (inClass (top 46) 1),[],[]⟩
def iB:He.DefD:=⟨("Net",some "all_rides"),"all_rides","Net.all_rides",defArgs (inClass (top 46) 9),defBody (inClass (top 46) 9),defScope (inClass (top 46) 9),[],[]⟩
def iM:He.DefD:=⟨("Matcher",some "grow"),"grow","Matcher.grow",defArgs (inClass (top 53) 1),defBody (inClass (top 53) 1),defScope (inClass (top 53) 1),[],[]⟩
def mN:He.DefD:=⟨("Net",some "long"),"long","Net.long",defArgs (inClass (top 46) 5),defBody (inClass (top 46) 5),defScope (inClass (top 46) 5),[],[]⟩
def jc:He.DefD:=⟨("Net",some "arrive"),"arrive","Net.arrive",defArgs (inClass (top 46) 8),defBody (inClass (top 46) 8),defScope (inClass (top 46) 8),[],[]⟩
def mO:He.DefD:=⟨("Net",some "goal"),"goal","Net.goal",defArgs (inClass (top 46) 4),defBody (inClass (top 46) 4),defScope (inClass (top 46) 4),[],[]⟩
def lL:He.DefD:=⟨("Net",some "start"),"start","Net.start",defArgs (inClass (top 46) 3),defBody (inClass (top 46) 3),defScope (inClass (top 46) 3),[],[]⟩
def d_can_follow:He.DefD:=⟨("can_follow",none),"can_follow","can_follow",defArgs (top 52),defBody (top 52),defScope (top 52),[],[]⟩
def gU:He.DefD:=⟨("Matcher",some "__init__"),"__init__","Matcher.__init__",defArgs (inClass (top 53) 0),defBody (inClass (top 53) 0),defScope (inClass (top 53) 0),[],[]⟩
def d_need_days:He.DefD:=⟨("need_days",none),"need_days","need_days",defArgs (top 47),defBody (top 47),defScope (top 47),[],[]⟩
def d_need_turn:He.DefD:=⟨("need_turn",none),"need_turn","need_turn",defArgs (top 51),defBody (top 51),defScope (top 51),[],[]⟩
def d_are_days:He.DefD:=⟨("are_days",none),"are_days","are_days",defArgs (top 43),defBody (top 43),defScope (top 43),[],[]⟩
def d_is_leg:He.DefD:=⟨("is_leg",none),"is_leg","is_leg",defArgs (top 44),defBody (top 44),defScope (top 44),[],[]⟩
def iD:He.DefD:=⟨("BadNet",some "__init__"),"__init__","BadNet.__init__",defArgs (inClass (top 3) 0),defBody (inClass (top 3) 0),defScope (inClass (top 3) 0),[],[]⟩
def d_is_word:He.DefD:=⟨("is_word",none),"is_word","is_word",defArgs (top 41),defBody (top 41),defScope (top 41),[],[]⟩
def d_is_place:He.DefD:=⟨("is_place",none),"is_place","is_place",defArgs (top 42),defBody (top 42),defScope (top 42),[],[]⟩
def d_need_net:He.DefD:=⟨("need_net",none),"need_net","need_net",defArgs (top 45),defBody (top 45),defScope (top 45),[],[]⟩
def jd:He.DefD:=⟨("Net",some "__init__"),"__init__","Net.__init__",defArgs (inClass (top 46) 0),defBody (inClass (top 46) 0),defScope (inClass (top 46) 0),[],[]⟩
def d_fewest:He.DefD:=⟨("fewest",none),"fewest","fewest",defArgs (top 54),defBody (top 54),defScope (top 54),[],[]⟩
def d_is_end:He.DefD:=⟨("is_end",none),"is_end","is_end",defArgs (top 55),defBody (top 55),defScope (top 55),[],[]⟩
def d_shown_planes:He.DefD:=⟨("shown_planes",none),"shown_planes","shown_planes",defArgs (top 56),defBody (top 56),defScope (top 56),[],[]⟩
def mP:He.DefD:=⟨("_law_kind",none),"_law_kind","_law_kind",defArgs (top 61),defBody (top 61),defScope (top 61),[],[]⟩
def lM:He.DefD:=⟨("_law_drawn",none),"_law_drawn","_law_drawn",defArgs (top 59),defBody (top 59),defScope (top 59),[],[]⟩
def lN:He.DefD:=⟨("_law_leave",none),"_law_leave","_law_leave",defArgs (top 64),defBody (top 64),defScope (top 64),[],[]⟩
def oh:He.DefD:=⟨("_law_leg",none),"_law_leg","_law_leg",defArgs (top 65),defBody (top 65),defScope (top 65),[],[]⟩
def gW:He.DefD:=⟨("_law_can_follow",none),"_law_can_follow","_law_can_follow",defArgs (top 67),defBody (top 67),defScope (top 67),[],[]⟩
def gX:He.DefD:=⟨("_law_are_chains",none),"_law_are_chains","_law_are_chains",defArgs (top 70),defBody (top 70),defScope (top 70),[],[]⟩
def lO:He.DefD:=⟨("_law_grown",none),"_law_grown","_law_grown",defArgs (top 68),defBody (top 68),defScope (top 68),[],[]⟩
def mQ:He.DefD:=⟨("_law_many",none),"_law_many","_law_many",defArgs (top 69),defBody (top 69),defScope (top 69),[],[]⟩
def lP:He.DefD:=⟨("_law_rides",none),"_law_rides","_law_rides",defArgs (top 66),defBody (top 66),defScope (top 66),[],[]⟩
def jA:He.DefD:=⟨("_law_shuttle",none),"_law_shuttle","_law_shuttle",defArgs (top 62),defBody (top 62),defScope (top 62),[],[]⟩
def oi:He.DefD:=⟨("_law_net",none),"_law_net","_law_net",defArgs (top 63),defBody (top 63),defScope (top 63),[],[]⟩
def lQ:He.DefD:=⟨("_law_start",none),"_law_start","_law_start",defArgs (top 58),defBody (top 58),defScope (top 58),[],[]⟩
def xZ:He.DefD:=⟨("law",none),"law","law",defArgs (top 71),defBody (top 71),defScope (top 71),[],[]⟩
def hFn0:List He.DefD:=[iA,gT,lK,d_is_number,mM,iB,iM,mN,jc,mO,lL,d_can_follow,gU,d_need_days,d_need_turn,d_are_days,d_is_leg,iD,d_is_word,d_is_place,d_need_net,jd,d_fewest,d_is_end,d_shown_planes,mP,lM,lN,oh,gW]
def hFn1:List He.DefD:=[gX,lO,mQ,lP,jA,oi,lQ,xZ]
def hNA:List He.DefD:=hFn0
def hNB:List He.DefD:=[]++hFn1
def hFn:List He.DefD:=hNA++hNB
def hKinds:List He.Fa:=kinds.map .glo++[.glo "AirError"]++kindsHere.map fun C=>.exm C "AirError" true
def hFa0:List He.Fa:=[.noat "Matcher" "ahead",.noat "Matcher" "behind",.noat "Matcher" "every",.noat "Matcher" "nexts",.noat "Net" "changes",.noat "Net" "legs",.cls "Matcher",.cls "Net",.glo "AirError",.glo "BadChain",.glo "BadClasses",.glo "BadCount",.glo "BadDay",.glo "BadDeed",.glo "BadFleet",.glo "BadName",.glo "BadNet",.glo "BadPlace",.glo "BadText",.glo "BadTime",.glo "CannotFly",.glo "Left",.glo "Matcher",.glo "Net",.glo "NoBooking",.glo "NoClass",.glo "NoDuty",.glo "NoKind",.glo "NoLeg",.glo "NoPlane"]
def hFa1:List He.Fa:=[.glo "NoSeat",.glo "NoWay",.glo "Taken",.glo "Unmended",.glo "_law_are_chains",.glo "_law_can_follow",.glo "_law_drawn",.glo "_law_grown",.glo "_law_kind",.glo "_law_leave",.glo "_law_leg",.glo "_law_many",.glo "_law_net",.glo "_law_rides",.glo "_law_shuttle",.glo "_law_start",.glo "are_days",.glo "can_follow",.glo "fewest",.glo "is_end",.glo "is_leg",.glo "is_number",.glo "is_place",.glo "is_word",.glo "need_days",.glo "need_net",.glo "need_turn",.glo "shown_planes",.int "DAY" 1440,.int "LEAST_CHANGE" 10]
def hFa2:List He.Fa:=[.int "LEAST_LONG" 20,.int "LEAST_TURN" 10,.int "MOST_CHANGE" 300,.int "MOST_DAY" 60,.int "MOST_FARE" 100000,.int "MOST_LEGS" 60,.int "MOST_LONG" 900,.int "MOST_NUMBER" 9999,.int "MOST_PLACES" 12,.int "MOST_TURN" 300,.int "PLACE_SIZE" 3,.int "WEEK" 7,.mkr "Matcher",.mkr "Net",.meth "Matcher" "chains",.meth "Matcher" "cover",.meth "Matcher" "grow",.meth "Net" "all_rides",.meth "Net" "arrive",.meth "Net" "goal",.meth "Net" "goes",.meth "Net" "leave",.meth "Net" "long",.meth "Net" "start",.free "ValueError",.free "all",.free "bool",.free "dict",.free "enumerate",.free "int"]
def hFa3:List He.Fa:=[.free "isinstance",.free "len",.free "list",.free "min",.free "range",.free "set",.free "sorted",.free "str",.free "tuple",.free "zip",.str "LETTERS" "abcdefghijklmnopqrstuvwxyz",.exc "BadCount",.exc "BadDay",.glo "law"]
def hPA:List He.Fa:=hFa0++hFa1
def hPB:List He.Fa:=hFa2++hFa3++hKinds
def hAll:List He.Fa:=hPA++hPB
def zY:List Str:=["_wall","__name__","AirError","BadNet","BadFleet","BadClasses","BadDay","BadPlace","BadTime","BadCount","BadChain","NoDuty","NoLeg","NoPlane","NoKind","Taken","CannotFly","NoWay","NoSeat","NoClass","BadName","NoBooking","Left","Unmended","BadDeed","BadText","DAY","WEEK","MOST_DAY","MOST_PLACES"]
def zZ:List Str:=["MOST_LEGS","MOST_NUMBER","MOST_FARE","LEAST_CHANGE","MOST_CHANGE","LEAST_LONG","MOST_LONG","LETTERS","PLACE_SIZE","is_number","is_word","is_place","are_days","is_leg","need_net","Net","need_days","LEAST_TURN","MOST_TURN","need_turn","can_follow","Matcher","fewest","is_end","shown_planes","_law_start","_law_drawn","_law_same","_law_kind","_law_shuttle"]
def za:List Str:=["_law_net","_law_leave","_law_leg","_law_rides","_law_can_follow","_law_grown","_law_many","_law_are_chains"]
def uP:List Str:=zY++zZ++za
def hTf:List He.Defn:=lamDefs.map (·.1)
def vY:List He.Tab:=[]
def hOwn (K:PySem.W.Frag):Bool:=xX K (He.ga K "BadNet") (He.ma K (He.ga K "BadNet") "__init__") (He.ga K "AirError") ["part","number"]&&true
def hEx (K:PySem.W.Frag):Bool:=(pv K kindsHere&&uO K)&&hOwn K
theorem zb (h:(PySem.W.OpenLaw.row PySem.Challenge.rw_airhouse_k05_the_fewest_planes).wellSaid=true→(PySem.W.OpenLaw.row PySem.Challenge.rw_airhouse_k05_the_fewest_planes).Holds):PySem.Challenge.rw_airhouse_k05_the_fewest_planes.Holds:=by
  o_law
  exact h (by assumption)
abbrev hR:PySem.W.OpenRow:=PySem.W.OpenLaw.row PySem.Challenge.rw_airhouse_k05_the_fewest_planes
abbrev hHk:PySem.W.Hook:=hookF hAll hFn vY hTf hEx
def hOb (s:PySem.W.SharedT):He.AlX:=obsF hAll hFn vY hTf hEx (HandSHeadRun.getT s)
theorem hOb_eq (s:PySem.W.SharedT):hOb s=hHk.obs s.abs:=zX (HandSHeadRun.getT_eq s)
theorem hRun (w:World):HandSHeadRun.RunEq hR (PySem.W.view hR.prog [71]) hHk hOb 20000 uP w:=by
  intro os
  kernel_rfl
theorem hMost:PySem.Challenge.rw_airhouse_k05_the_fewest_planes.most=some 63:=rfl
theorem hDf:(HandSHeadRun.topDef (PySem.W.OpenLaw.row PySem.Challenge.rw_airhouse_k05_the_fewest_planes).prog 71).params.defaults=[]:=by kernel_rfl
theorem hNm:(HandSHeadRun.topDef (PySem.W.OpenLaw.row PySem.Challenge.rw_airhouse_k05_the_fewest_planes).prog 71).name=("law":PySem.Str):=by kernel_rfl
theorem xa (hc:PySem.W.WalkO (PySem.W.view (PySem.W.OpenLaw.row PySem.Challenge.rw_airhouse_k05_the_fewest_planes).prog [71]) uP (PySem.W.XL (PySem.W.view (PySem.W.OpenLaw.row PySem.Challenge.rw_airhouse_k05_the_fewest_planes).prog [71]) []) hHk.says (PySem.W.OpenLaw.row PySem.Challenge.rw_airhouse_k05_the_fewest_planes).toRowW (HandSHeadRun.topDef (PySem.W.OpenLaw.row PySem.Challenge.rw_airhouse_k05_the_fewest_planes).prog 71) [] fun f vs=>PySem.call f vs):PySem.Challenge.rw_airhouse_k05_the_fewest_planes.Holds:=by
  refine zb fun said=>?_
  w_on
  refine HandSHeadRun.head_any (r:=PySem.W.OpenLaw.row PySem.Challenge.rw_airhouse_k05_the_fewest_planes) (q:=PySem.W.view (PySem.W.OpenLaw.row PySem.Challenge.rw_airhouse_k05_the_fewest_planes).prog [71]) (H:=hHk) (ob:=hOb) (M:=20000) (loose:=uP) (d:=HandSHeadRun.topDef (PySem.W.OpenLaw.row PySem.Challenge.rw_airhouse_k05_the_fewest_planes).prog 71) (kwd:=[]) hOb_eq
    (by kernel_rfl) (fun s=>by kernel_rfl) hRun (by kernel_rfl) (by kernel_rfl) (by kernel_rfl) (by rfl) (by first|assumption|decide +kernel) (by decide +kernel) ⟨rfl,rfl,rfl,rfl,rfl,by decide +kernel⟩ ?hw hc
  w_witness2
end DL
namespace DL
open PySem PySem.Spec PyProof.Rows L2
inductive D where
  | none|bool (b:Bool)|int (i:Int)|str (x:Str)|ty (n:String)
  | tup (xs:List D)|lst (xs:List D)|ro (xs:List D)|loc (l:Nat)|glo (x:Str)|adr (a:Addr)|tpn (xs:List D)
  | clo (k:Nat) (b:Bool) (q:Str) (F:Value→Addr→Value→Value→Obj)
  | exn (a dd:Addr) (ns:List Str) (xs:List D)
  deriving Inhabited
inductive O where
  | lst (xs:List D)|dct (t:Bool) (kvs:List (D × D))|ins (C:Str) (fs:List (Str × D))|fdc (t:Bool) (kvs:List (D × D))|any
  deriving Inhabited
abbrev Sto:=List O
abbrev En:=List (Option D)
structure XV where
  cls:Str
  fs:List (Str × D)
def dt:Key→D
  | .inl i=>.int i
  | .inr x=>.str x
def gH (ks:List Key):D:=.tup (ks.map dt)
/-- where what changes stands: what is named by its place,and what is being made -/
structure Mu where
  l:List Addr
  h:List Addr
instance:Membership Addr Mu:=⟨fun μ a=>a∈μ.l∨a∈μ.h⟩
def Mu.push (μ:Mu) (p:Addr):Mu:=⟨μ.l++[p],μ.h⟩
def Mu.hide (μ:Mu) (p:Addr):Mu:=⟨μ.l,p::μ.h⟩
theorem Mu.mem {μ:Mu} {a:Addr}:a∈μ↔a∈μ.l∨a∈μ.h:=Iff.rfl
/-- the function object o stands at f -/
def p0 (f:Addr) (o:Obj):HO:=.ext fun h=>h.get? f=some o
/-- the defaults of a lambda: none,or the one number 0 -/
def DfO (b:Bool) (H:Hp) (μ:Mu) (dv:Value):Prop:=b=true→∃T,dv=.ref T∧H T=some (.tup [.int 0])∧T∉μ
section
variable (K:PySem.W.Frag) (mg:Str→Option Value)
def SeqL (μ:Mu) (H:Hp) (a:Addr) (vs:List V):Prop:=(Rd H a (.lst vs)∧a∉μ)∨SqL K (fun _=>none) a vs
mutual
def Rep (μ:Mu) (H:Hp):D→V→Prop
  | .none,v=>v=.non
  | .bool b,v=>v=.bl b
  | .int i,v=>v=.int i
  | .str x,v=>v=.str x
  | .ty n,v=>v=.ty n
  | .tup ds,v=>∃a vs,v=.ref a∧H a=some (.tup vs)∧a∉μ∧RepAll μ H ds vs
  | .lst ds,v=>∃a vs,v=.ref a∧H a=some (.lst vs)∧a∉μ∧RepAll μ H ds vs
  | .ro ds,v=>∃a vs,v=.ref a∧SeqL K μ H a vs∧RepAll μ H ds vs
  | .loc l,v=>∃a,v=.ref a∧μ.l[l]?=some a
  | .glo x,v=>∃a,v=.ref a∧mg x=some (.ref a)
  | .adr a,v=>v=.ref a
  | .tpn ds,v=>∃a vs o,v=.ref a∧(H a=some (.frz o (.tup vs))∧o.dict=none)∧a∉μ∧RepAll μ H ds vs
  | .exn a dd ns ds,v=>∃vs,v=.ref a∧H dd=some (.xd (ns.zip vs))∧dd∉μ∧RepAll μ H ds vs
  | .clo _ b q F,v=>∃f c' pm ctv dv,v=.ref f∧(H f=some (p0 f (F pm c' ctv dv))∧f∉μ)∧(H c'=some (LamX.CodeO c' q)∧c'∉μ)∧DfO b H μ dv
def RepAll (μ:Mu) (H:Hp):List D→List V→Prop
  | [],vs=>vs=[]
  | d::ds,vs=>∃v r,vs=v::r∧Rep μ H d v∧RepAll μ H ds r
end
/-- what may be hidden -/
def Hdn (o:HO):Prop:=(∃xs,o=.lst xs)∨(∃kvs,o=.dK kvs)∨∃kvs,o=.dT kvs
def RepO (μ:Mu) (H:Hp):O→Addr→Prop
  | .any,a=>∃u,H a=some u∧Hdn u
  | .lst ds,a=>∃vs,H a=some (.lst vs)∧RepAll K mg μ H ds vs
  | .dct false kvs,a=>∃vs,∃ks:List Key,(H a=some (.dK (ks.zip vs))∧kvs.map (·.1)=ks.map dt)∧RepAll K mg μ H (kvs.map (·.2)) vs
  | .dct true kvs,a=>∃vs,∃ks:List (List Key),(H a=some (.dT (ks.zip vs))∧kvs.map (·.1)=ks.map gH)∧RepAll K mg μ H (kvs.map (·.2)) vs
  | .ins C fs,a=>∃Ca dx vs,mg C=some (.ref Ca)∧H a=some (.ins Ca dx ((fs.map (·.1)).zip vs))∧RepAll K mg μ H (fs.map (·.2)) vs
  | .fdc false kvs,a=>∃vs,∃ks:List Key,((∃od,H a=some (.frz od (.dK (ks.zip vs))))∧kvs.map (·.1)=ks.map dt)∧RepAll K mg μ H (kvs.map (·.2)) vs
  | .fdc true kvs,a=>∃vs,∃ks:List (List Key),((∃od,H a=some (.frz od (.dT (ks.zip vs))))∧kvs.map (·.1)=ks.map gH)∧RepAll K mg μ H (kvs.map (·.2)) vs
/-- no table of code objects -/
def NTb (o:HO):Prop:=∀ps,o≠.tbl ps
theorem Hdn.ntb {o:HO} (h:Hdn o) (ps:Array Value):o≠.tbl ps:=by
  rcases h with ⟨_,rfl⟩|⟨_,rfl⟩|⟨_,rfl⟩<;>exact nofun
theorem Hdn.nc {o:HO} (h:Hdn o) (c:Addr) (q:Str):o≠LamX.CodeO c q:=by
  unfold LamX.CodeO
  rcases h with ⟨_,rfl⟩|⟨_,rfl⟩|⟨_,rfl⟩<;>exact nofun
structure RelS (μ:Mu) (H:Hp) (S:Sto):Prop where
  len:S.length=μ.l.length
  nd:μ.l.Nodup
  dis:∀a∈μ.l,a∉μ.h
  hid:∀a∈μ.h,∃u,H a=some u∧Hdn u
  at_:∀(l:Nat) (o:O),S[l]?=some o→∃a,μ.l[l]?=some a∧RepO K mg μ H o a
  tab:LamX.Tabs (tbs K) H
structure RelE (μ:Mu) (H:Hp) (env:En) (σ:L2.St):Prop where
  len:env.length=σ.length
  at_:∀(i:Nat) (d:D),env[i]?=some (some d)→∃v,σ[i]?=some (some v)∧Rep K mg μ H d v
structure Rl (μ:Mu) (H:Hp) (env:En) (σ:L2.St) (S:Sto):Prop where
  env:RelE K mg μ H env σ
  sto:RelS K mg μ H S
def RepX (μ:Mu) (H:Hp) (e:XV) (cls:Value) (dd:Option Addr):Prop:=
  ∃C,mg e.cls=some (.ref C)∧cls=.ref C∧((e.fs=[]∧dd=none)∨e.fs≠[]∧∃d vs,dd=some d∧H d=some (.xd ((e.fs.map (·.1)).zip vs))∧RepAll K mg μ H (e.fs.map (·.2)) vs)
end
/-- what stays as code runs -/
structure StpW (μ:Mu) (H:Hp) (μ':Mu) (H':Hp):Prop where
  pre:∃t,μ'.l=μ.l++t
  new:∀a∈μ',a∈μ∨∀o,H a=some o→¬NTb o
  keep':∀a o,H a=some o→a∉μ→NTb o→H' a=some o
/-- .. what is locked among it -/
structure Stp (μ:Mu) (H:Hp) (μ':Mu) (H':Hp):Prop extends StpW μ H μ' H' where
  kf:∀a od u,H a=some (.frz od u)→H' a=some (.frz od u)
structure Step (μ:Mu) (H:Hp) (μ':Mu) (H':Hp):Prop extends Stp μ H μ' H' where
  hid:μ'.h=μ.h
  hk':∀a u,a∈μ.h→H a=some u→NTb u→H' a=some u
instance {μ μ':Mu} {H H':Hp}:Coe (Stp μ H μ' H') (StpW μ H μ' H'):=⟨Stp.toStpW⟩
theorem StpW.keep {μ μ':Mu} {H H':Hp} (s:StpW μ H μ' H') (a:Addr) (o:HO) (h:H a=some o) (n:a∉μ) (t:NTb o:=by exact fun _ z=>nomatch z):H' a=some o:=s.keep' a o h n t
theorem Step.hk {μ μ':Mu} {H H':Hp} (s:Step μ H μ' H') (a:Addr) (u:HO) (h:a∈μ.h) (e:H a=some u) (t:NTb u:=by exact fun _ z=>nomatch z):H' a=some u:=s.hk' a u h e t
def Sm (H H':Hp):Prop:=∀b o,H b=some o→H' b=some o
theorem Sm.rfl {H:Hp}:Sm H H:=fun _ _ h=>h
theorem Sm.trans {H H1 H2:Hp} (a:Sm H H1) (b:Sm H1 H2):Sm H H2:=fun c o h=>b c o (a c o h)
theorem Sm.upd {H:Hp} {p:Addr} {o:HO} (h:H p=none):Sm H (upd H p o):=fun b u e=>by
  rw[upd_ne (ne_of_none e h)]; exact e
section
variable {μ μ' μ2:Mu} {H H' H2:Hp}
theorem Stp.refl:Stp μ H μ H:=⟨⟨⟨[],by simp⟩,fun _ h=>.inl h,fun _ _ h _ _=>h⟩,fun _ _ _ h=>h⟩
theorem Step.refl:Step μ H μ H:=⟨.refl,rfl,fun _ _ _ h _=>h⟩
theorem Step.of_sm (s:Sm H H'):Step μ H μ H':=⟨⟨⟨⟨[],by simp⟩,fun _ h=>.inl h,fun a o h _ _=>s a o h⟩,fun a _ _ h=>s a _ h⟩,rfl,fun a u _ h _=>s a u h⟩
theorem StpW.notin (s:StpW μ H μ' H') {a:Addr} {o:HO} (h:H a=some o) (n:a∉μ) (t:NTb o:=by exact fun _ z=>nomatch z):a∉μ':=fun z=>by
  rcases s.new a z with e|e
  · exact n e
  · exact e o h t
theorem Step.notin (s:Step μ H μ' H') {a:Addr} {o:HO} (h:H a=some o) (n:a∉μ) (t:NTb o:=by exact fun _ z=>nomatch z):a∉μ':=s.toStp.notin h n t
theorem Stp.trans (s:Stp μ H μ' H') (t:Stp μ' H' μ2 H2):Stp μ H μ2 H2:=by
  obtain ⟨x,hx⟩:=s.pre
  obtain ⟨y,hy⟩:=t.pre
  refine ⟨⟨⟨x++y,by rw[hy,hx,List.append_assoc]⟩,fun a ha=>?_,fun a o h n nt=>t.keep a o (s.keep a o h n nt) (s.notin h n nt) nt⟩,fun a od u h=>t.kf a od u (s.kf a od u h)⟩
  rcases t.new a ha with e|e
  · exact s.new a e
  · by_cases h:a∈μ
    · exact .inl h
    · exact .inr fun o q nt=>e o (s.keep a o q h nt) nt
theorem Step.trans (s:Step μ H μ' H') (t:Step μ' H' μ2 H2):Step μ H μ2 H2:=⟨s.toStp.trans t.toStp,t.hid.trans s.hid,fun a u ha h nt=>t.hk a u (by rw[s.hid]; exact ha) (s.hk a u ha h nt) nt⟩
theorem StpW.get (s:StpW μ H μ' H') {l:Nat} {a:Addr} (h:μ.l[l]?=some a):μ'.l[l]?=some a:=by
  obtain ⟨t,e⟩:=s.pre
  have hl:l<μ.l.length:=(List.getElem?_eq_some_iff.mp h).1
  rw[e,List.getElem?_append_left hl]; exact h
theorem Step.get (s:Step μ H μ' H') {l:Nat} {a:Addr} (h:μ.l[l]?=some a):μ'.l[l]?=some a:=s.toStp.get h
/-- a new one at p -/
theorem Step.new_loc {p:Addr} {o:HO} (h:H p=none):Step μ H (μ.push p) (upd H p o):=
  ⟨⟨⟨⟨[p],rfl⟩,fun a ha=>by
    rcases ha with ha|ha
    · rcases List.mem_append.mp ha with e|e
      · exact .inl (.inl e)
      · have:a=p:=by simpa using e
        subst this; exact .inr fun o q=>by rw[h] at q; cases q
    · exact .inl (.inr ha),fun a u e _ _=>(by rw[upd_ne (ne_of_none e h)]; exact e)⟩,fun a _ _ e=>(by rw[upd_ne (ne_of_none e h)]; exact e)⟩,rfl,fun a u _ e _=>by rw[upd_ne (ne_of_none e h)]; exact e⟩
theorem Stp.new_hid {p:Addr} {o:HO} (h:H p=none):Stp μ H (μ.hide p) (upd H p o):=
  ⟨⟨⟨[],by simp[Mu.hide]⟩,fun a ha=>by
    rcases ha with ha|ha
    · exact .inl (.inl ha)
    · rcases List.mem_cons.mp ha with e|e
      · subst e; exact .inr fun o q=>by rw[h] at q; cases q
      · exact .inl (.inr e),fun a u e _ _=>(by rw[upd_ne (ne_of_none e h)]; exact e)⟩,fun a _ _ e=>(by rw[upd_ne (ne_of_none e h)]; exact e)⟩
/-- not locked -/
def NF (H:Hp) (p:Addr):Prop:=∀od u,H p≠some (.frz od u)
theorem NF.of {H:Hp} {p:Addr} {w:HO} (h:H p=some w) (hw:∀od u,w≠.frz od u:=by exact fun _ _ z=>nomatch z):NF H p:=fun od u z=>by
  rw[h] at z; exact hw od u (Option.some.inj z)
theorem NF.ne {H:Hp} {p b:Addr} {od:Obj} {u:HO} (n:NF H p) (e:H b=some (.frz od u)):b≠p:=fun z=>n od u (z▸e)
theorem Hdn.nf {H:Hp} {p:Addr} {u:HO} (e:H p=some u) (h:Hdn u):NF H p:=.of e (by rcases h with ⟨_,rfl⟩|⟨_,rfl⟩|⟨_,rfl⟩<;>exact fun _ _ z=>nomatch z)
theorem Stp.write_hid {p:Addr} {o:HO} (h:p∈μ.h) (nf:NF H p):Stp μ H μ (upd H p o):=
  ⟨⟨⟨[],by simp⟩,fun _ h=>.inl h,fun b u e n _=>(by
    have:b≠p:=fun z=>n (z▸.inr h)
    rw[upd_ne this]; exact e)⟩,fun b _ _ e=>(by rw[upd_ne (nf.ne e)]; exact e)⟩
theorem Step.write' {l:Nat} {a:Addr} {o:HO} (h:μ.l[l]?=some a) (hd:a∉μ.h) (nf:NF H a):Step μ H μ (upd H a o):=
  ⟨⟨⟨⟨[],by simp⟩,fun _ h=>.inl h,fun b u e n _=>(by
    have:b≠a:=fun z=>n (z▸.inl (List.mem_of_getElem? h))
    rw[upd_ne this]; exact e)⟩,fun b _ _ e=>(by rw[upd_ne (nf.ne e)]; exact e)⟩,rfl,fun b u hb e _=>by
    have:b≠a:=fun z=>hd (z▸hb)
    rw[upd_ne this]; exact e⟩
variable {K:PySem.W.Frag} {mg:Str→Option Value}
theorem SeqL.sq {a:Addr} {vs:List V} (h:SeqL K μ H a vs):SqL K H a vs:=by
  rcases h with h|h|h
  · exact .inl h.1
  · rcases h with z|⟨o,z⟩<;>cases z
  · exact .inr h
theorem rC (s:StpW μ H μ' H') {a:Addr} {u:HO} (h:Rd H a u) (n:a∉μ) (t:NTb u:=by exact fun _ z=>nomatch z):Rd H' a u∧a∉μ':=by
  rcases h with h|⟨o,h⟩
  · exact ⟨.inl (s.keep _ _ h n t),s.notin h n t⟩
  · exact ⟨.inr ⟨o,s.keep _ _ h n⟩,s.notin h n⟩
theorem SeqL.stpW (s:StpW μ H μ' H') {a:Addr} {vs:List V} (h:SeqL K μ H a vs):SeqL K μ' H' a vs:=by
  rcases h with h|h
  · exact .inl (rC s h.1 h.2)
  · exact .inr h
mutual
theorem Rep.stpW (s:StpW μ H μ' H'):∀(d:D) (v:V),Rep K mg μ H d v→Rep K mg μ' H' d v
  | .none,_,h=>by unfold Rep at *; exact h
  | .bool _,_,h=>by unfold Rep at *; exact h
  | .int _,_,h=>by unfold Rep at *; exact h
  | .str _,_,h=>by unfold Rep at *; exact h
  | .ty _,_,h=>by unfold Rep at *; exact h
  | .tup ds,_,h=>by
    unfold Rep at *
    obtain ⟨a,vs,e,h1,n,h2⟩:=h
    exact ⟨a,vs,e,s.keep _ _ h1 n,s.notin h1 n,RepAll.stpW s ds vs h2⟩
  | .lst ds,_,h=>by
    unfold Rep at *
    obtain ⟨a,vs,e,h1,n,h2⟩:=h
    exact ⟨a,vs,e,s.keep _ _ h1 n,s.notin h1 n,RepAll.stpW s ds vs h2⟩
  | .ro ds,_,h=>by
    unfold Rep at *
    obtain ⟨a,vs,e,h1,h2⟩:=h
    exact ⟨a,vs,e,h1.stpW s,RepAll.stpW s ds vs h2⟩
  | .loc l,_,h=>by
    unfold Rep at *
    obtain ⟨a,e,h1⟩:=h
    exact ⟨a,e,s.get h1⟩
  | .glo _,_,h=>by unfold Rep at *; exact h
  | .adr _,_,h=>by unfold Rep at *; exact h
  | .exn a dd ns ds,_,h=>by
    unfold Rep at *
    obtain ⟨vs,e,h1,n,h2⟩:=h
    exact ⟨vs,e,s.keep _ _ h1 n,s.notin h1 n,RepAll.stpW s ds vs h2⟩
  | .clo _ b q F,_,h=>by
    unfold Rep at *
    obtain ⟨f,c',pm,ctv,dv,e,⟨h1,n1⟩,⟨h2,n2⟩,h3⟩:=h
    have t1:NTb (p0 f (F pm c' ctv dv)):=fun _ z=>by unfold p0 at z; cases z
    have t2:NTb (LamX.CodeO c' q):=fun _ z=>by unfold LamX.CodeO at z; cases z
    refine ⟨f,c',pm,ctv,dv,e,⟨s.keep _ _ h1 n1 t1,s.notin h1 n1 t1⟩,⟨s.keep _ _ h2 n2 t2,s.notin h2 n2 t2⟩,fun hb=>?_⟩
    obtain ⟨T,h3,h4,h5⟩:=h3 hb
    exact ⟨T,h3,s.keep _ _ h4 h5,s.notin h4 h5⟩
  | .tpn ds,_,h=>by
    unfold Rep at *
    obtain ⟨a,vs,o,e,⟨h1,hd⟩,n,h2⟩:=h
    exact ⟨a,vs,o,e,⟨s.keep _ _ h1 n,hd⟩,s.notin h1 n,RepAll.stpW s ds vs h2⟩
theorem RepAll.stpW (s:StpW μ H μ' H'):∀(ds:List D) (vs:List V),RepAll K mg μ H ds vs→RepAll K mg μ' H' ds vs
  | [],_,h=>by unfold RepAll at *; exact h
  | d::ds,_,h=>by
    unfold RepAll at *
    obtain ⟨v,r,e,h1,h2⟩:=h
    exact ⟨v,r,e,Rep.stpW s d v h1,RepAll.stpW s ds r h2⟩
end
theorem dO (s:Stp μ H μ' H') {a:Addr} {u:HO} (h:Rd H a u) (n:a∉μ) (t:NTb u:=by exact fun _ z=>nomatch z):Rd H' a u∧a∉μ':=rC s.toStpW h n t
theorem SeqL.stp (s:Stp μ H μ' H') {a:Addr} {vs:List V} (h:SeqL K μ H a vs):SeqL K μ' H' a vs:=h.stpW s.toStpW
theorem Rep.stp (s:Stp μ H μ' H') (d:D) (v:V) (h:Rep K mg μ H d v):Rep K mg μ' H' d v:=Rep.stpW s.toStpW d v h
theorem RepAll.stp (s:Stp μ H μ' H') (ds:List D) (vs:List V) (h:RepAll K mg μ H ds vs):RepAll K mg μ' H' ds vs:=RepAll.stpW s.toStpW ds vs h
theorem Rep.step (s:Step μ H μ' H') (d:D) (v:V) (h:Rep K mg μ H d v):Rep K mg μ' H' d v:=Rep.stp s.toStp d v h
theorem RepAll.step (s:Step μ H μ' H') (d:List D) (v:List V) (h:RepAll K mg μ H d v):RepAll K mg μ' H' d v:=RepAll.stp s.toStp d v h
theorem SeqL.step (s:Step μ H μ' H') {a:Addr} {vs:List V} (h:SeqL K μ H a vs):SeqL K μ' H' a vs:=h.stp s.toStp
theorem RepAll.length:∀ {ds:List D} {vs:List V},RepAll K mg μ H ds vs→ds.length=vs.length
  | [],_,h=>by unfold RepAll at h; subst h; rfl
  | d::ds,_,h=>by
    unfold RepAll at h
    obtain ⟨v,r,rfl,_,h2⟩:=h
    simp[RepAll.length h2]
theorem RepAll.get:∀ {ds:List D} {vs:List V} {i:Nat} {d:D},RepAll K mg μ H ds vs→ds[i]?=some d→∃v,vs[i]?=some v∧Rep K mg μ H d v
  | [],_,_,_,_,e=>by simp at e
  | d::ds,_,0,_,h,e=>by
    unfold RepAll at h
    obtain ⟨v,r,rfl,h1,_⟩:=h
    simp at e; subst e
    exact ⟨v,rfl,h1⟩
  | d::ds,_,i+1,_,h,e=>by
    unfold RepAll at h
    obtain ⟨v,r,rfl,_,h2⟩:=h
    obtain ⟨u,e1,e2⟩:=RepAll.get (i:=i) h2 (by simpa using e)
    exact ⟨u,by simpa using e1,e2⟩
theorem RepAll.nil:RepAll K mg μ H [] []:=by unfold RepAll; rfl
theorem RepAll.cons {d:D} {ds:List D} {v:V} {vs:List V} (h:Rep K mg μ H d v) (t:RepAll K mg μ H ds vs):RepAll K mg μ H (d::ds) (v::vs):=by
  unfold RepAll; exact ⟨v,vs,rfl,h,t⟩
theorem RepAll.append:∀ {ds es:List D} {vs us:List V},RepAll K mg μ H ds vs→RepAll K mg μ H es us→RepAll K mg μ H (ds++es) (vs++us)
  | [],_,_,_,h,t=>by unfold RepAll at h; subst h; exact t
  | d::ds,_,_,_,h,t=>by
    unfold RepAll at h
    obtain ⟨v,r,rfl,h1,h2⟩:=h
    exact .cons h1 (RepAll.append h2 t)
theorem RepAll.take:∀ {ds:List D} {vs:List V} (n:Nat),RepAll K mg μ H ds vs→RepAll K mg μ H (ds.take n) (vs.take n)
  | _,_,0,_=>by simp only[List.take_zero]; exact .nil
  | [],_,n+1,h=>by unfold RepAll at h; subst h; simp only[List.take_nil]; exact .nil
  | d::ds,_,n+1,h=>by
    unfold RepAll at h
    obtain ⟨v,r,rfl,h1,h2⟩:=h
    exact .cons h1 (RepAll.take n h2)
theorem RepAll.drop:∀ {ds:List D} {vs:List V} (n:Nat),RepAll K mg μ H ds vs→RepAll K mg μ H (ds.drop n) (vs.drop n)
  | _,_,0,h=>h
  | [],_,n+1,h=>by unfold RepAll at h; subst h; simp only[List.drop_nil]; exact .nil
  | d::ds,_,n+1,h=>by
    unfold RepAll at h
    obtain ⟨v,r,rfl,h1,h2⟩:=h
    exact RepAll.drop n h2
theorem RepAll.set {d:D} {v:V} (r:Rep K mg μ H d v):∀ {ds:List D} {vs:List V} (i:Nat),RepAll K mg μ H ds vs→RepAll K mg μ H (ds.set i d) (vs.set i v)
  | [],_,i,h=>by unfold RepAll at h; subst h; exact .nil
  | e::ds,_,0,h=>by
    unfold RepAll at h
    obtain ⟨w,q,rfl,h1,h2⟩:=h
    exact .cons r h2
  | e::ds,_,i+1,h=>by
    unfold RepAll at h
    obtain ⟨w,q,rfl,h1,h2⟩:=h
    exact .cons h1 (RepAll.set r i h2)
theorem RepO.step_sm (s:Sm H H') {o:O} {a:Addr} (h:RepO K mg μ H o a):RepO K mg μ H' o a:=by
  have st:Step μ H μ H':=.of_sm s
  cases o with
  | lst ds=>obtain ⟨vs,h1,h2⟩:=h; exact ⟨vs,s _ _ h1,RepAll.step st _ _ h2⟩
  | any=>obtain ⟨u,e,t⟩:=h; exact ⟨u,s _ _ e,t⟩
  | dct t kvs=>
    cases t<;>(obtain ⟨vs,ks,⟨e,k⟩,h2⟩:=h; exact ⟨vs,ks,⟨s _ _ e,k⟩,RepAll.step st _ _ h2⟩)
  | ins C fs=>obtain ⟨Ca,dx,vs,g,h1,h2⟩:=h; exact ⟨Ca,dx,vs,g,s _ _ h1,RepAll.step st _ _ h2⟩
  | fdc t kvs=>
    cases t<;>(obtain ⟨vs,ks,⟨⟨od,e⟩,k⟩,h2⟩:=h; exact ⟨vs,ks,⟨⟨od,s _ _ e⟩,k⟩,RepAll.step st _ _ h2⟩)
/-- its own object stays -/
theorem RepO.stepW (st:StpW μ H μ' H') {o:O} {a:Addr} (e:∀u,H a=some u→H' a=some u) (h:RepO K mg μ H o a):RepO K mg μ' H' o a:=by
  cases o with
  | lst ds=>obtain ⟨vs,h1,h2⟩:=h; exact ⟨vs,e _ h1,RepAll.stpW st _ _ h2⟩
  | any=>obtain ⟨u,q,t⟩:=h; exact ⟨u,e _ q,t⟩
  | dct t kvs=>
    cases t<;>(obtain ⟨vs,ks,⟨q,k⟩,h2⟩:=h; exact ⟨vs,ks,⟨e _ q,k⟩,RepAll.stpW st _ _ h2⟩)
  | ins C fs=>obtain ⟨Ca,dx,vs,g,h1,h2⟩:=h; exact ⟨Ca,dx,vs,g,e _ h1,RepAll.stpW st _ _ h2⟩
  | fdc t kvs=>
    cases t<;>(obtain ⟨vs,ks,⟨⟨od,q⟩,k⟩,h2⟩:=h; exact ⟨vs,ks,⟨⟨od,e _ q⟩,k⟩,RepAll.stpW st _ _ h2⟩)
theorem RepO.step (st:Stp μ H μ' H') {o:O} {a:Addr} (e:∀u,H a=Option.some u→H' a=Option.some u) (h:RepO K mg μ H o a):RepO K mg μ' H' o a:=h.stepW st.toStpW e
theorem RepO.some {o:O} {a:Addr} (h:RepO K mg μ H o a):∃u,H a=some u:=by
  cases o with
  | lst ds=>obtain ⟨vs,h1,h2⟩:=h; exact ⟨_,h1⟩
  | any=>obtain ⟨u,q,t⟩:=h; exact ⟨u,q⟩
  | dct t kvs=>
    cases t<;>(obtain ⟨vs,ks,⟨q,k⟩,h2⟩:=h; exact ⟨_,q⟩)
  | ins C fs=>obtain ⟨Ca,dx,vs,g,h1,h2⟩:=h; exact ⟨_,h1⟩
  | fdc t kvs=>
    cases t<;>(obtain ⟨vs,ks,⟨⟨od,q⟩,k⟩,h2⟩:=h; exact ⟨_,q⟩)
theorem RepO.nt {o:O} {a:Addr} (h:RepO K mg μ H o a) {ps:Array Value} (e:H a=Option.some (HO.tbl ps)):False:=by
  cases o with
  | any=>obtain ⟨u,q,t⟩:=h; rw[e] at q; cases q; rcases t with ⟨_,t⟩|⟨_,t⟩|⟨_,t⟩<;>cases t
  | lst ds=>obtain ⟨vs,h1,h2⟩:=h; rw[e] at h1; cases h1
  | dct t kvs=>
    cases t<;>(obtain ⟨vs,ks,⟨q,k⟩,h2⟩:=h; rw[e] at q; cases q)
  | ins C fs=>obtain ⟨Ca,dx,vs,g,h1,h2⟩:=h; rw[e] at h1; cases h1
  | fdc t kvs=>
    cases t<;>(obtain ⟨vs,ks,⟨⟨od,q⟩,k⟩,h2⟩:=h; rw[e] at q; cases q)
variable {S:Sto} {env:En} {σ:L2.St}
theorem RelS.sm (s:Sm H H') (h:RelS K mg μ H S):RelS K mg μ H' S:=
  ⟨h.len,h.nd,h.dis,fun a ha=>let ⟨u,e,t⟩:=h.hid a ha; ⟨u,s a u e,t⟩,fun l o e=>let ⟨a,h1,h2⟩:=h.at_ l o e; ⟨a,h1,h2.step_sm s⟩,h.tab.ext s⟩
theorem RelE.stpW (s:StpW μ H μ' H') (h:RelE K mg μ H env σ):RelE K mg μ' H' env σ:=
  ⟨h.len,fun i d e=>let ⟨v,h1,h2⟩:=h.at_ i d e; ⟨v,h1,Rep.stpW s _ _ h2⟩⟩
theorem RelE.stp (s:Stp μ H μ' H') (h:RelE K mg μ H env σ):RelE K mg μ' H' env σ:=h.stpW s.toStpW
theorem RelE.step (s:Step μ H μ' H') (h:RelE K mg μ H env σ):RelE K mg μ' H' env σ:=h.stp s.toStp
theorem RelE.set (h:RelE K mg μ H env σ) {i:Nat} {d:D} {v:V} (r:Rep K mg μ H d v):RelE K mg μ H (env.set i (some d)) (σ.set i (some v)):=by
  refine ⟨by simp[h.len],fun j e q=>?_⟩
  by_cases hj:j=i
  · subst hj
    have hl:j<env.length:=by
      have:=(List.getElem?_eq_some_iff.mp q).1; simpa using this
    rw[List.getElem?_set_self hl] at q
    cases q
    exact ⟨v,by rw[List.getElem?_set_self (by rw[←h.len]; exact hl)],r⟩
  · rw[List.getElem?_set_ne (Ne.symm hj)] at q
    rw[List.getElem?_set_ne (Ne.symm hj)]
    exact h.at_ j e q
theorem Rl.sm (s:Sm H H') (h:Rl K mg μ H env σ S):Rl K mg μ H' env σ S:=⟨h.env.step (.of_sm s),h.sto.sm s⟩
theorem RelS.notin (rs:RelS K mg μ H S) {p:Addr} (hp:H p=none):p∉μ.l:=fun z=>by
  obtain ⟨l,hl,e⟩:=List.getElem_of_mem z
  obtain ⟨a',h1,h2⟩:=rs.at_ l (S[l]'(by rw[rs.len]; exact hl)) (List.getElem?_eq_getElem (by rw[rs.len]; exact hl))
  rw[List.getElem?_eq_getElem hl,e] at h1; cases h1
  obtain ⟨u,hu⟩:=h2.some
  rw[hp] at hu; cases hu
theorem RelS.notinH (rs:RelS K mg μ H S) {p:Addr} (hp:H p=none):p∉μ.h:=fun z=>by
  obtain ⟨u,e,_⟩:=rs.hid p z
  rw[hp] at e; cases e
theorem RelS.fresh (rs:RelS K mg μ H S) {p:Addr} (hp:H p=none):p∉μ:=fun z=>z.elim (rs.notin hp) (rs.notinH hp)
theorem RelS.ntab (rs:RelS K mg μ H S) {l:Nat} {a:Addr} (hl:μ.l[l]?=some a) {ps:Array Value} (e:H a=Option.some (HO.tbl ps)):False:=by
  have hl2:l<S.length:=by rw[rs.len]; exact (List.getElem?_eq_some_iff.mp hl).1
  obtain ⟨a',h1,h2⟩:=rs.at_ l _ (List.getElem?_eq_getElem hl2)
  rw[hl] at h1; cases h1
  exact h2.nt e
theorem mR {T:List (Addr × Str)} {p:Addr} {ho:HO} (h:LamX.Tabs T H) (n:∀ps,H p≠some (.tbl ps)) (nc:∀c q,H p≠some (LamX.CodeO c q)):LamX.Tabs T (upd H p ho):=fun q hq=>by
  obtain ⟨ps,h1,h2,h3⟩:=h q hq
  refine ⟨ps,by rw[upd_ne fun z=>n ps (by rw[←z]; exact h1)]; exact h1,h2,fun pos cv e=>?_⟩
  obtain ⟨c,e1,e2⟩:=h3 pos cv e
  exact ⟨c,e1,by rw[upd_ne fun z=>nc c q.2 (by rw[←z]; exact e2)]; exact e2⟩
theorem RepO.nc {o:O} {a c:Addr} {q:Str} (h:RepO K mg μ H o a) (e:H a=Option.some (LamX.CodeO c q)):False:=by
  unfold LamX.CodeO at e
  cases o with
  | any=>obtain ⟨u,q,t⟩:=h; rw[e] at q; cases q; rcases t with ⟨_,t⟩|⟨_,t⟩|⟨_,t⟩<;>cases t
  | lst ds=>obtain ⟨vs,h1,h2⟩:=h; rw[e] at h1; cases h1
  | dct t kvs=>
    cases t<;>(obtain ⟨vs,ks,⟨q,k⟩,h2⟩:=h; rw[e] at q; cases q)
  | ins C fs=>obtain ⟨Ca,dx,vs,g,h1,h2⟩:=h; rw[e] at h1; cases h1
  | fdc t kvs=>
    cases t<;>(obtain ⟨vs,ks,⟨⟨od,q⟩,k⟩,h2⟩:=h; rw[e] at q; cases q)
theorem RelS.ncode (rs:RelS K mg μ H S) {l:Nat} {a c:Addr} {q:Str} (hl:μ.l[l]?=some a) (e:H a=Option.some (LamX.CodeO c q)):False:=by
  have hl2:l<S.length:=by rw[rs.len]; exact (List.getElem?_eq_some_iff.mp hl).1
  obtain ⟨a',h1,h2⟩:=rs.at_ l _ (List.getElem?_eq_getElem hl2)
  rw[hl] at h1; cases h1
  exact h2.nc e
/-- a new object -/
theorem RelS.push (h:RelS K mg μ H S) {p:Addr} {ho:HO} {o:O} (hp:H p=none) (r:RepO K mg (μ.push p) (upd H p ho) o p):RelS K mg (μ.push p) (upd H p ho) (S++[o]):=by
  have st:Step μ H (μ.push p) (upd H p ho):=.new_loc hp
  have np:p∉μ.l:=h.notin hp
  have hh:p∉μ.h:=h.notinH hp
  refine ⟨by simp[h.len,Mu.push],List.nodup_append.mpr ⟨h.nd,by simp,fun a ha b hb=>?_⟩,fun a ha=>?_,fun a ha=>?_,fun l u e=>?_,h.tab.ext (Sm.upd hp)⟩
  · have:b=p:=by simpa using hb
    subst this
    exact fun z=>np (z▸ha)
  · rcases List.mem_append.mp ha with e|e
    · exact h.dis a e
    · have:a=p:=by simpa using e
      subst this; exact hh
  · obtain ⟨u,e,t⟩:=h.hid a ha
    exact ⟨u,by rw[upd_ne (ne_of_none e hp)]; exact e,t⟩
  · by_cases hl:l<S.length
    · rw[List.getElem?_append_left hl] at e
      obtain ⟨a,h1,h2⟩:=h.at_ l u e
      exact ⟨a,st.get h1,h2.step st.toStp fun w q=>by rw[upd_ne (ne_of_none q hp)]; exact q⟩
    · rw[List.getElem?_append_right (by omega)] at e
      have hl2:l - S.length=0:=by
        have:=(List.getElem?_eq_some_iff.mp e).1
        simp at this; omega
      rw[hl2] at e
      simp at e
      subst e
      have:l=S.length:=by omega
      subst this
      exact ⟨p,by rw[h.len]; simp[Mu.push],r⟩
/-- an object written -/
theorem RelS.write (h:RelS K mg μ H S) {l:Nat} {p:Addr} {ho:HO} {o:O} (hp:μ.l[l]?=some p) (nf:NF H p) (r:RepO K mg μ (upd H p ho) o p):RelS K mg μ (upd H p ho) (S.set l o):=by
  have st:Step μ H μ (upd H p ho):=.write' hp (h.dis p (List.mem_of_getElem? hp)) nf
  refine ⟨by simp[h.len],h.nd,h.dis,fun a ha=>?_,fun j u e=>?_,mR h.tab (fun ps z=>h.ntab hp z) fun c q z=>h.ncode hp z⟩
  · obtain ⟨u,e,t⟩:=h.hid a ha
    by_cases hap:a=p
    · subst hap
      exact absurd ha (h.dis a (List.mem_of_getElem? hp))
    · exact ⟨u,by rw[upd_ne hap]; exact e,t⟩
  by_cases hj:j=l
  · subst hj
    have hl:j<S.length:=by
      have:=(List.getElem?_eq_some_iff.mp e).1; simpa using this
    rw[List.getElem?_set_self hl] at e
    cases e
    exact ⟨p,hp,r⟩
  · rw[List.getElem?_set_ne (Ne.symm hj)] at e
    obtain ⟨a,h1,h2⟩:=h.at_ j u e
    have na:a≠p:=fun z=>by
      subst z
      have e1:=List.getElem?_eq_some_iff.mp h1
      have e2:=List.getElem?_eq_some_iff.mp hp
      exact hj ((List.getElem_inj h.nd).mp (e1.2.trans e2.2.symm))
    exact ⟨a,h1,h2.step st.toStp fun w q=>by rw[upd_ne na]; exact q⟩
theorem Step.write (h:RelS K mg μ H S) {l:Nat} {a:Addr} {o:HO} (hp:μ.l[l]?=some a) (nf:NF H a):Step μ H μ (upd H a o):=.write' hp (h.dis a (List.mem_of_getElem? hp)) nf
/-- something hidden is made,is written -/
theorem RelS.hide (h:RelS K mg μ H S) {p:Addr} {ho:HO} (hp:H p=none) (ht:Hdn ho:=by first|exact .inl ⟨_,rfl⟩|exact .inr (.inl ⟨_,rfl⟩)|exact .inr (.inr ⟨_,rfl⟩)):RelS K mg (μ.hide p) (upd H p ho) S:=by
  have st:Stp μ H (μ.hide p) (upd H p ho):=.new_hid hp
  have np:=h.notin hp
  refine ⟨h.len,h.nd,fun a ha=>?_,fun a ha=>?_,fun l o e=>?_,h.tab.ext (Sm.upd hp)⟩
  · intro z
    rcases List.mem_cons.mp z with e|e
    · subst e; exact np ha
    · exact h.dis a ha e
  · rcases List.mem_cons.mp ha with e|e
    · subst e; exact ⟨_,upd_same,ht⟩
    · obtain ⟨u,e,t⟩:=h.hid a e
      exact ⟨u,by rw[upd_ne (ne_of_none e hp)]; exact e,t⟩
  · obtain ⟨a,h1,h2⟩:=h.at_ l o e
    exact ⟨a,h1,h2.step st fun u q=>by rw[upd_ne (ne_of_none q hp)]; exact q⟩
theorem RelS.write_hid (h:RelS K mg μ H S) {p:Addr} {ho:HO} (hp:p∈μ.h) (ht:Hdn ho:=by first|exact .inl ⟨_,rfl⟩|exact .inr (.inl ⟨_,rfl⟩)|exact .inr (.inr ⟨_,rfl⟩)):RelS K mg μ (upd H p ho) S:=by
  have st:Stp μ H μ (upd H p ho):=.write_hid hp (by obtain ⟨u,e,t⟩:=h.hid p hp; exact Hdn.nf e t)
  refine ⟨h.len,h.nd,h.dis,fun a ha=>?_,fun l o e=>?_,mR h.tab (fun ps z=>?_) fun c q z=>?_⟩
  · obtain ⟨u,e,t⟩:=h.hid a ha
    by_cases hap:a=p
    · exact ⟨_,by rw[hap]; exact upd_same,ht⟩
    · exact ⟨u,by rw[upd_ne hap]; exact e,t⟩
  rotate_left
  · obtain ⟨u,e,t⟩:=h.hid p hp
    rw[z] at e; cases e
    exact t.ntb ps rfl
  · obtain ⟨u,e,t⟩:=h.hid p hp
    rw[z] at e; cases e
    exact t.nc c q rfl
  obtain ⟨a,h1,h2⟩:=h.at_ l o e
  have na:a≠p:=fun z=>h.dis a (List.mem_of_getElem? h1) (z▸hp)
  exact ⟨a,h1,h2.step st fun u q=>by rw[upd_ne na]; exact q⟩
/-- less is hidden -/
theorem Stp.unhide {h':List Addr} (hs:∀a∈h',a∈μ.h):Stp μ H ⟨μ.l,h'⟩ H:=⟨⟨⟨[],by simp⟩,fun a ha=>.inl (ha.elim .inl fun z=>.inr (hs a z)),fun _ _ e _ _=>e⟩,fun _ _ _ e=>e⟩
theorem RelS.unhide {h':List Addr} (hs:∀a∈h',a∈μ.h) (h:RelS K mg μ H S):RelS K mg ⟨μ.l,h'⟩ H S:=
  ⟨h.len,h.nd,fun a ha z=>h.dis a ha (hs a z),fun a ha=>h.hid a (hs a ha),fun l o e=>let ⟨a,h1,h2⟩:=h.at_ l o e; ⟨a,h1,h2.step (.unhide hs) fun _ q=>q⟩,h.tab⟩
end
end DL
namespace DL
open PySem PySem.Spec PyProof.Rows L2
inductive Res (α:Type) where
  | ok (a:α) (S:Sto)|exc (e:XV) (S:Sto)|stuck
abbrev ME:=En→Sto→Res D
abbrev MA:=En→Sto→Res (List D)
abbrev MT:=En→Sto→Res Bool
def Res.bind {α β:Type}:Res α→(α→Sto→Res β)→Res β
  | .ok a S,f=>f a S
  | .exc e S,_=>.exc e S
  | .stuck,_=>.stuck
def ofO {α:Type} (S:Sto):Option α→Res α
  | some a=>.ok a S
  | none=>.stuck
section
variable (K:PySem.W.Frag) (mg:Str→Option Value)
def Out {α β:Type} (W:WX) (σ:L2.St) (μ:Mu) (H:Hp) (R:Mu→Hp→α→β→Prop) (Q:β→Hp→Prop):Res α→Prop
  | .ok a S=>∀μ' H' b,Step μ H μ' H'→RelS K mg μ' H' S→R μ' H' a b→Q b H'
  | .exc e S=>∀μ' H' cls dd,Step μ H μ' H'→RelS K mg μ' H' S→RepX K mg μ' H' e cls dd→W cls dd σ H'
  | .stuck=>False
end
section
variable {K:PySem.W.Frag} {mg:Str→Option Value} {α α' β β':Type} {W:WX} {σ:L2.St} {μ μ1:Mu} {H H1:Hp} {R:Mu→Hp→α→β→Prop} {R':Mu→Hp→α'→β'→Prop}
theorem Out.of_step {Q:β→Hp→Prop} {r:Res α} (st:Step μ H μ1 H1) (o:Out K mg W σ μ H R Q r):Out K mg W σ μ1 H1 R Q r:=by
  cases r with
  | ok a S=>exact fun μ' H' b s=>o μ' H' b (st.trans s)
  | exc e S=>exact fun μ' H' c d s=>o μ' H' c d (st.trans s)
  | stuck=>exact o
theorem Out.mono {Q Q':β→Hp→Prop} {r:Res α} (o:Out K mg W σ μ H R Q r) (h:∀b H',Q b H'→Q' b H'):Out K mg W σ μ H R Q' r:=by
  cases r with
  | ok a S=>exact fun μ' H' b s t u=>h _ _ (o μ' H' b s t u)
  | exc e S=>exact o
  | stuck=>exact o
theorem Out.bind {Q:β'→Hp→Prop} {r:Res α} {f:α→Sto→Res α'} (o:Out K mg W σ μ H R' Q (r.bind f)) :
    Out K mg W σ μ H R (fun b H1=>∃μ1 S1 a,Step μ H μ1 H1∧RelS K mg μ1 H1 S1∧R μ1 H1 a b∧Out K mg W σ μ1 H1 R' Q (f a S1)) r:=by
  cases r with
  | ok a S=>exact fun μ' H' b s t u=>⟨μ',S,a,s,t,u,Out.of_step s o⟩
  | exc e S=>exact o
  | stuck=>exact o
end
/-- the reading of a computation -/
def tM (X:Cx) {α β:Type} (R:Mu→Hp→α→β→Prop) (W:WX) (m:En→Sto→Res α):L2.St→Hp→(β→Hp→Prop)→Prop:=fun σ H Q=>
  ∃env S μ,Rl X.K X.mg μ H env σ S∧Out X.K X.mg W σ μ H R Q (m env S)
abbrev tE (X:Cx) (W:WX) (m:ME):TE:=tM X (fun μ H a b=>Rep X.K X.mg μ H a b) W m
abbrev tAs (X:Cx) (W:WX) (m:MA):TA:=tM X (fun μ H a b=>RepAll X.K X.mg μ H a b) W m
abbrev tT (X:Cx) (W:WX) (m:MT):TT:=tM X (fun _ _ a b=>b=a) W m
theorem cA {X:Cx} {e:Expr} {t t':TE} (h:PE X e t) (i:∀σ H Q,t' σ H Q→t σ H Q):PE X e t':=⟨fun pins s σ H Q I w=>h.run pins s σ H Q I (i σ H Q w)⟩
theorem vZ {X:Cx} {e:Expr} {t t':TT} (h:PT X e t) (i:∀σ H Q,t' σ H Q→t σ H Q):PT X e t':=⟨fun pins s σ H Q I w=>h.run pins s σ H Q I (i σ H Q w)⟩
theorem pw_to {X:Cx} {e:Expr} {t t':TT} (h:PW X e t) (i:∀σ H Q,t' σ H Q→t σ H Q):PW X e t':=⟨fun wh pins s σ H Q I w=>h.run wh pins s σ H Q I (i σ H Q w)⟩
theorem pa_to {X:Cx} {e:List Expr} {t t':TA} (h:PA X e t) (i:∀σ H Q,t' σ H Q→t σ H Q):PA X e t':=⟨fun p pins s σ H Q I w=>h.run p pins s σ H Q I (i σ H Q w)⟩
def vt:D→D
  | .tpn xs=>.tup xs
  | d=>d
def view0 (S:Sto):D→D
  | .loc l=>match S[l]? with
    | some (.lst xs)=>.lst xs
    | _=>.loc l
  | d=>d
def view (S:Sto) (d:D):D:=vt (view0 S d)
section
variable (K:PySem.W.Frag) (mg:Str→Option Value)
def RepV (μ:Mu) (H:Hp):D→V→Prop
  | .lst ds,v=>∃a vs,v=.ref a∧H a=some (.lst vs)∧RepAll K mg μ H ds vs
  | d,v=>Rep K mg μ H d v
def RepW (μ:Mu) (H:Hp):D→V→Prop
  | .lst ds,v=>∃a vs,v=.ref a∧H a=some (.lst vs)∧RepAll K mg μ H ds vs
  | .tup ds,v=>∃a vs,v=.ref a∧Rd H a (.tup vs)∧RepAll K mg μ H ds vs∧a∉μ
  | d,v=>Rep K mg μ H d v
end
section
variable {K:PySem.W.Frag} {mg:Str→Option Value} {μ μ1:Mu} {H H1:Hp} {S:Sto}
theorem Rep.wv {d:D} {v:V} (h:Rep K mg μ H d v):RepV K mg μ H d v:=by
  cases d with
  | lst ds=>
    unfold Rep at h
    obtain ⟨a,vs,e,h1,_,h2⟩:=h
    exact ⟨a,vs,e,h1,h2⟩
  | _=>exact h
theorem RepV.vt {d:D} {v:V} (h:RepV K mg μ H d v):RepW K mg μ H (vt d) v:=by
  cases d with
  | lst ds=>exact h
  | tup ds=>
    have h:Rep K mg μ H (.tup ds) v:=h
    unfold Rep at h
    obtain ⟨a,vs,e,h1,n,h2⟩:=h
    exact ⟨a,vs,e,.of h1,h2,n⟩
  | tpn ds=>
    have h:Rep K mg μ H (.tpn ds) v:=h
    unfold Rep at h
    obtain ⟨a,vs,o,e,⟨h1,_⟩,n,h2⟩:=h
    exact ⟨a,vs,e,.inr ⟨o,h1⟩,h2,n⟩
  | _=>exact h
theorem Rep.w {d:D} {v:V} (h:Rep K mg μ H d v):RepW K mg μ H d v:=by
  cases d with
  | lst ds=>exact h.wv
  | tup ds=>exact h.wv.vt
  | _=>exact h
theorem RelS.view0 (rs:RelS K mg μ H S) {d:D} {v:V} (h:Rep K mg μ H d v):RepV K mg μ H (view0 S d) v:=by
  cases d with
  | loc l=>
    show RepV K mg μ H (match S[l]? with|some (.lst xs)=>.lst xs|_=>.loc l) v
    split
    · rename_i xs e
      unfold Rep at h
      obtain ⟨a,ev,ha⟩:=h
      obtain ⟨a',h1,vs,h2,h3⟩:=rs.at_ l _ e
      rw[ha] at h1; cases h1
      exact ⟨a,vs,ev,h2,h3⟩
    · exact h.wv
  | _=>exact h.wv
theorem RelS.view (rs:RelS K mg μ H S) {d:D} {v:V} (h:Rep K mg μ H d v):RepW K mg μ H (view S d) v:=(rs.view0 h).vt
end
def rS (K:PySem.W.Frag) (mg:Str→Option Value) (f:Sto→D→D→Option D):R2:=fun x y H Q=>
  ∃μ S a b d,RelS K mg μ H S∧Rep K mg μ H a x∧Rep K mg μ H b y∧f S a b=some d∧∀H' v,Sm H H'→Rep K mg μ H' d v→Q v H'
def lv (f:D→D→Option D):Sto→D→D→Option D:=fun S a b=>f (view S a) (view S b)
def lv0 (f:D→D→Option D):Sto→D→D→Option D:=fun S a b=>f (view0 S a) (view0 S b)
abbrev rP (K:PySem.W.Frag) (mg:Str→Option Value) (f:D→D→Option D):R2:=rS K mg (lv f)
def aK (f:Sto→D→D→Option D) (ma mb:ME):ME:=fun env S=>(ma env S).bind fun a S=>(mb env S).bind fun b S=>ofO S (f S a b)
section
variable {X:Cx} {W:WX} {a b:Expr} {pos:Pos} {ma mb:ME}
theorem vc {f:Sto→D→D→Option D} {σ:L2.St} {H:Hp} {Q:VK} (h:tE X W (aK f ma mb) σ H Q):tOp (rS X.K X.mg f) (tE X W ma) (tE X W mb) σ H Q:=by
  obtain ⟨env,S,μ,rl,o⟩:=h
  refine ⟨env,S,μ,rl,(Out.bind o).mono fun x H1 ⟨μ1,S1,da,st,rs,ra,o1⟩=>?_⟩
  refine ⟨env,S1,μ1,⟨rl.env.step st,rs⟩,(Out.bind o1).mono fun y H2 ⟨μ2,S2,db,st2,rs2,rb,o2⟩=>?_⟩
  cases e:f S2 da db with
  | none=>rw[e] at o2; exact o2.elim
  | some d=>
    rw[e] at o2
    exact ⟨μ2,S2,_,_,d,rs2,Rep.step st2 _ _ ra,rb,e,fun H' v sm r=>o2 μ2 H' v (.of_sm sm) (rs2.sm sm) r⟩
theorem aQ {op:Operator} {f:Sto→D→D→Option D} (ho:OpR X (binaryOp op) (rS X.K X.mg f)) (ha:PE X a (tE X W ma)) (hb:PE X b (tE X W mb)):PE X (.BinOp a op b pos) (tE X W (aK f ma mb)):=
  cA (pe_op ho ha hb) fun _ _ _ h=>vc h
theorem eD {op:CmpOp} {f:Sto→D→D→Option D} (ho:OpR X (compareOp op) (rS X.K X.mg f)) (ha:PE X a (tE X W ma)) (hb:PE X b (tE X W mb)) (hm:behindInMarks op b=false):PE X (.Compare a [op] [b] pos) (tE X W (aK f ma mb)):=
  cA (pe_cmpR ho ha hb hm) fun _ _ _ h=>vc h
/-- a computation whose value is a bool,as a test -/
def tOf (m:ME):MT:=fun env S=>(m env S).bind fun d S=>match d with
  | .bool b=>.ok b S
  | _=>.stuck
theorem t_of {m:ME} {σ:L2.St} {H:Hp} {Q:Bool→Hp→Prop} (h:tT X W (tOf m) σ H Q):tTest (tE X W m) σ H Q:=by
  obtain ⟨env,S,μ,rl,o⟩:=h
  refine ⟨env,S,μ,rl,(Out.bind o).mono fun x H1 ⟨μ1,S1,d,st,rs,r,o1⟩=>?_⟩
  cases d with
  | bool b=>unfold Rep at r; exact ⟨b,r,o1 μ1 H1 b .refl rs rfl⟩
  | _=>exact o1.elim
theorem aa {op:CmpOp} {f:Sto→D→D→Option D} (ho:OpR X (compareOp op) (rS X.K X.mg f)) (ha:PE X a (tE X W ma)) (hb:PE X b (tE X W mb)) (hm:behindInMarks op b=false):PT X (.Compare a [op] [b] pos) (tT X W (tOf (aK f ma mb))):=
  vZ (pt_cmpR ho ha hb hm) fun σ H Q h=>by
    obtain h:=t_of h
    obtain ⟨env,S,μ,rl,o⟩:=h
    exact vc ⟨env,S,μ,rl,o⟩
end
def oI (g:Int→Int→Int):D→D→Option D
  | .int i,.int j=>some (.int (g i j))
  | _,_=>none
def oIC (C:Int→Int→Bool) (g:Int→Int→Int):D→D→Option D
  | .int i,.int j=>if C i j then some (.int (g i j)) else none
  | _,_=>none
def oIB (g:Int→Int→Bool):D→D→Option D
  | .int i,.int j=>some (.bool (g i j))
  | _,_=>none
theorem RepW.int {K:PySem.W.Frag} {mg:Str→Option Value} {μ:Mu} {H:Hp} {i:Int} {v:V} (h:RepW K mg μ H (.int i) v):v=.int i:=by
  have h:Rep K mg μ H (.int i) v:=h
  unfold Rep at h; exact h
theorem RepW.str {K:PySem.W.Frag} {mg:Str→Option Value} {μ:Mu} {H:Hp} {i:Str} {v:V} (h:RepW K mg μ H (.str i) v):v=.str i:=by
  have h:Rep K mg μ H (.str i) v:=h
  unfold Rep at h; exact h
theorem RepW.tup {K:PySem.W.Frag} {mg:Str→Option Value} {μ:Mu} {H:Hp} {ds:List D} {v:V} (h:RepW K mg μ H (.tup ds) v):∃a vs,v=.ref a∧Rd H a (.tup vs)∧RepAll K mg μ H ds vs∧a∉μ:=h
section
variable {X:Cx}
theorem az {K:PySem.W.Frag} {mg:Str→Option Value} {μ:Mu} {H:Hp} (i:Int):Rep K mg μ H (.int i) (.int i):=by unfold Rep; rfl
theorem cR {K:PySem.W.Frag} {mg:Str→Option Value} {μ:Mu} {H:Hp} (i:Bool):Rep K mg μ H (.bool i) (.bl i):=by unfold Rep; rfl
theorem gI {K:PySem.W.Frag} {mg:Str→Option Value} {μ:Mu} {H:Hp} (i:Str):Rep K mg μ H (.str i) (.str i):=by unfold Rep; rfl
theorem mS {K:PySem.W.Frag} {mg:Str→Option Value} {μ:Mu} {H:Hp}:Rep K mg μ H .none .non:=by unfold Rep; rfl
theorem zc {f:Value→Value→Sem Value} {r r':R2} (h:OpR X f r) (i:∀x y H Q,r' x y H Q→r x y H Q):OpR X f r':=fun pins s σ H x y v u Q I rx ry w=>h pins s σ H x y v u Q I rx ry (i _ _ _ _ w)
/-- an operator over views -/
theorem rD {f:Value→Value→Sem Value} {g:D→D→Option D} {r:R2} (h:OpR X f r)
    (i:∀μ x y H Q a b d,RepW X.K X.mg μ H a x→RepW X.K X.mg μ H b y→g a b=some d→(∀H' v,Sm H H'→Rep X.K X.mg μ H' d v→Q v H')→r x y H Q):OpR X f (rP X.K X.mg g):=
  zc h fun x y H Q ⟨μ,S,a,b,d,rs,ra,rb,e,q⟩=>i μ x y H Q _ _ d (rs.view ra) (rs.view rb) e q
theorem opI_D {f:Value→Value→Sem Value} {g:Int→Int→Int} (h:OpR X f (rI0 fun i j=>.int (g i j))):OpR X f (rP X.K X.mg (oI g)):=rD h fun μ x y H Q a b d ra rb e q=>by
  unfold oI at e
  split at e
  · cases e
    exact ⟨_,_,ra.int,rb.int,q H _ .rfl (az _)⟩
  · cases e
theorem p9 {f:Value→Value→Sem Value} {C:Int→Int→Prop} {Cb:Int→Int→Bool} {g:Int→Int→Int} (hC:∀i j,Cb i j=true→C i j) (h:OpR X f (rI C fun i j=>.int (g i j))):OpR X f (rP X.K X.mg (oIC Cb g)):=rD h fun μ x y H Q a b d ra rb e q=>by
  unfold oIC at e
  split at e
  · split at e
    · rename_i hc
      cases e
      exact ⟨_,_,ra.int,rb.int,hC _ _ hc,q H _ .rfl (az _)⟩
    · cases e
  · cases e
theorem qA {f:Value→Value→Sem Value} {g:Int→Int→Bool} (h:OpR X f (rI0 fun i j=>.bl (g i j))):OpR X f (rP X.K X.mg (oIB g)):=rD h fun μ x y H Q a b d ra rb e q=>by
  unfold oIB at e
  split at e
  · cases e
    exact ⟨_,_,ra.int,rb.int,q H _ .rfl (cR _)⟩
  · cases e
def bh (i j:Int):Bool:=(decide (-(2 ^ 64)<i)&&decide (i<2 ^ 64))||(decide (-(2 ^ 64)<j)&&decide (j<2 ^ 64))
def i8 (_ j:Int):Bool:=decide (0<j)&&decide (j<1073741824)
def eX (_ j:Int):Bool:=decide (0<j)
def cPow (i j:Int):Bool:=decide (0≤j)&&decide (j≤1000000)&&decide (i.natAbs<2 ^ 64)
abbrev qB:=oI (fun i j=>i - j)
abbrev dY:=oIC bh (fun i j=>i*j)
abbrev dDiv:=oIC i8 (fun i j=>i / j)
abbrev lz:=oIC eX (fun i j=>i % j)
abbrev dPow:=oIC cPow (fun i j=>i ^ j.toNat)
abbrev dLt:=oIB (fun i j=>decide (i<j))
abbrev dLe:=oIB (fun i j=>decide (i≤j))
abbrev dGt:=oIB (fun i j=>decide (j<i))
abbrev dGe:=oIB (fun i j=>decide (j≤i))
theorem lR:OpR X (binaryOp .Sub) (rP X.K X.mg qB):=opI_D op_sub
theorem cu:OpR X (binaryOp .Mult) (rP X.K X.mg dY):=p9 (fun i j h=>by
  simp only[bh,Bool.or_eq_true,Bool.and_eq_true,decide_eq_true_eq] at h; exact h) op_mul
theorem ve:OpR X (binaryOp .FloorDiv) (rP X.K X.mg dDiv):=p9 (fun i j h=>by
  simp only[i8,Bool.and_eq_true,decide_eq_true_eq] at h; exact h) op_fdiv
theorem iN:OpR X (binaryOp .Mod) (rP X.K X.mg lz):=p9 (C:=fun _ j=>0<j) (fun i j h=>by
  simp only[eX,decide_eq_true_eq] at h; exact h) op_mod
theorem o_pow:OpR X (binaryOp .Pow) (rP X.K X.mg dPow):=p9 (fun i j h=>by
  simp only[cPow,Bool.and_eq_true,decide_eq_true_eq] at h; exact ⟨h.1.1,h.1.2,h.2⟩) op_pow
theorem o_lt:OpR X (compareOp .Lt) (rP X.K X.mg dLt):=qA op_lt
theorem uQ:OpR X (compareOp .LtE) (rP X.K X.mg dLe):=qA op_le
theorem o_gt:OpR X (compareOp .Gt) (rP X.K X.mg dGt):=qA op_gt
theorem o_ge:OpR X (compareOp .GtE) (rP X.K X.mg dGe):=qA op_ge
def bL:D→D→Option D
  | .int i,.int j=>some (.int (i+j))
  | .str x,.str y=>if x.length+y.length≤1000000 then some (.str (x++y)) else none
  | .tup xs,.tup ys=>if xs.length+ys.length≤1000000 then some (.tup (xs++ys)) else none
  | .lst xs,.lst ys=>if xs.length+ys.length≤1000000 then some (.lst (xs++ys)) else none
  | .tpn xs,.tup ys=>if xs.length+ys.length≤1000000 then some (if xs=[] then .tup ys else if ys=[] then .tpn xs else .tup (xs++ys)) else none
  | .tup xs,.tpn ys=>if xs.length+ys.length≤1000000 then some (if xs=[] then .tpn ys else .tup (xs++ys)) else none
  | .tpn xs,.tpn ys=>if xs.length+ys.length≤1000000 then some (if xs=[] then .tpn ys else if ys=[] then .tpn xs else .tup (xs++ys)) else none
  | _,_=>none
theorem cp {n:Nat} (h:n≤1000000):n≤sizeLine:=by rw[sizeLine_eq]; omega
end
end DL
namespace DL
open PySem PySem.Spec PyProof.Rows L2
theorem bQ {K:PySem.W.Frag} {mg:Str→Option Value} {μ:Mu} {H:Hp} {S:Sto} (rs:RelS K mg μ H S) {p:Addr} (hp:H p=none) {ds:List D} {vs:List V} (l:RepAll K mg μ H ds vs) :
    Rep K mg μ (upd H p (.tup vs)) (.tup ds) (.ref p):=by
  unfold Rep
  exact ⟨p,vs,rfl,upd_same,rs.fresh hp,RepAll.step (.of_sm (.upd hp)) _ _ l⟩
theorem bt {K:PySem.W.Frag} {mg:Str→Option Value} {μ:Mu} {H:Hp} {S:Sto} (rs:RelS K mg μ H S) {p:Addr} (hp:H p=none) {ds:List D} {vs:List V} (l:RepAll K mg μ H ds vs) :
    Rep K mg μ (upd H p (.lst vs)) (.lst ds) (.ref p):=by
  unfold Rep
  exact ⟨p,vs,rfl,upd_same,rs.fresh hp,RepAll.step (.of_sm (.upd hp)) _ _ l⟩
section
variable {X:Cx}
theorem RepV.int {K:PySem.W.Frag} {mg:Str→Option Value} {μ:Mu} {H:Hp} {i:Int} {v:V} (h:RepV K mg μ H (.int i) v):v=.int i:=RepW.int h
theorem RepV.str {K:PySem.W.Frag} {mg:Str→Option Value} {μ:Mu} {H:Hp} {i:Str} {v:V} (h:RepV K mg μ H (.str i) v):v=.str i:=RepW.str h
theorem je {pins:List (Addr × Obj)} {s:Shared} {σ:L2.St} {H:Hp} {x y:V} {v u:Value} {Q:VK} {μ:Mu} {S:Sto} {a b d:D} {xs ys:List D} (I:L2.Inv X pins σ H s) (rx:L2.RelV x v) (ry:L2.RelV y u) (rs:RelS X.K X.mg μ H S)
    (ra:RepV X.K X.mg μ H a x) (rb:RepV X.K X.mg μ H b y) (va:vt a=.tup xs) (vb:vt b=.tup ys) (hz:xs.length+ys.length≤1000000)
    (h1:xs=[]→d=b) (h2:xs≠[]→ys=[]→d=a) (h3:xs≠[]→ys≠[]→d=.tup (xs++ys)) (q:∀H' v,Sm H H'→Rep X.K X.mg μ H' d v→Q v H') :
    wpAny (model X.prog X.w) X.A (binaryOp .Add v u) (EP X pins σ Q) X.xe s:=by
  have wa:=ra.vt
  have wb:=rb.vt
  rw[va] at wa
  rw[vb] at wb
  have ra':Rep X.K X.mg μ H a x:=by
    cases a with
    | tup z=>exact ra
    | tpn z=>exact ra
    | _=>cases va
  have rb':Rep X.K X.mg μ H b y:=by
    cases b with
    | tup z=>exact rb
    | tpn z=>exact rb
    | _=>cases vb
  obtain ⟨p,vs,rfl,ha,la,sa⟩:=wa
  obtain ⟨p',us,rfl,hb,lb,sb⟩:=wb
  refine op_catA pins s σ H _ _ v u Q I rx ry ⟨p,p',vs,us,rfl,rfl,.inl ha,.inl hb,?_,fun h=>q H _ .rfl ?_,fun h0 h=>q H _ .rfl ?_,fun h0 h p hp=>q _ _ (.upd hp) ?_⟩
  · rw[←la.length,←lb.length]; exact cp hz
  · subst h
    have:xs=[]:=List.length_eq_zero_iff.mp la.length
    rw[h1 this]; exact rb'
  · subst h
    have e2:ys=[]:=List.length_eq_zero_iff.mp lb.length
    have e1:xs≠[]:=fun z=>h0 (by subst z; exact List.length_eq_zero_iff.mp la.length.symm)
    rw[h2 e1 e2]; exact ra'
  · have e1:xs≠[]:=fun z=>h0 (by subst z; exact List.length_eq_zero_iff.mp la.length.symm)
    have e2:ys≠[]:=fun z=>h (by subst z; exact List.length_eq_zero_iff.mp lb.length.symm)
    rw[h3 e1 e2]
    exact bQ rs hp (la.append lb)
theorem ar:OpR X (binaryOp .Add) (rS X.K X.mg (lv0 bL)):=by
  intro pins s σ H x y v u Q I rx ry ⟨μ,S,a,b,d,rs,ra,rb,e,q⟩
  have ra:=rs.view0 ra
  have rb:=rs.view0 rb
  simp only[lv0] at e
  generalize view0 S a=a at *
  generalize view0 S b=b at *
  unfold bL at e
  split at e
  · cases e
    exact op_add pins s σ H x y v u Q I rx ry ⟨_,_,ra.int,rb.int,q H _ .rfl (az _)⟩
  · split at e
    · rename_i hz
      cases e
      exact op_add_str pins s σ H x y v u Q I rx ry ⟨_,_,ra.str,rb.str,cp hz,q H _ .rfl (gI _)⟩
    · cases e
  · split at e
    · rename_i xs ys hz
      cases e
      exact je I rx ry rs ra rb rfl rfl hz (fun h=>by subst h; rfl) (fun _ h=>by subst h; rw[List.append_nil]) (fun _ _=>rfl) q
    · cases e
  · split at e
    · rename_i xs ys hz
      cases e
      obtain ⟨a,vs,ea,ha,la⟩:=ra
      obtain ⟨b,us,eb,hb,lb⟩:=rb
      refine op_cat pins s σ H x y v u Q I rx ry ⟨a,b,vs,us,ea,eb,ha,hb,by rw[←la.length,←lb.length]; exact cp hz,fun p hp=>q _ _ (.upd hp) ?_⟩
      exact bt rs hp (la.append lb)
    · cases e
  · split at e
    · rename_i xs ys hz
      cases e
      exact je I rx ry rs ra rb rfl rfl hz (fun h=>by rw[if_pos h]) (fun h h'=>by rw[if_neg h,if_pos h']) (fun h h'=>by rw[if_neg h,if_neg h']) q
    · cases e
  · split at e
    · rename_i xs ys hz
      cases e
      exact je I rx ry rs ra rb rfl rfl hz (fun h=>by rw[if_pos h]) (fun h h'=>by rw[if_neg h,h',List.append_nil]) (fun h h'=>by rw[if_neg h]) q
    · cases e
  · split at e
    · rename_i xs ys hz
      cases e
      exact je I rx ry rs ra rb rfl rfl hz (fun h=>by rw[if_pos h]) (fun h h'=>by rw[if_neg h,if_pos h']) (fun h h'=>by rw[if_neg h,if_neg h']) q
    · cases e
  · cases e
end
def dok:Nat→D→Bool
  | _,.none=>true
  | _,.bool _=>true
  | _,.int _=>true
  | _,.str x=>PyData.strOk x
  | n+1,.tup xs=>xs.all (dok n)
  | n+1,.lst xs=>xs.all (dok n)
  | n+1,.tpn xs=>xs.all (dok n)
  | _,_=>false
mutual
def pdF:D→PyData
  | .none=>.none
  | .bool b=>.bool b
  | .int i=>.int i
  | .str x=>.str x
  | .tup xs=>.tuple (pdFs xs)
  | .lst xs=>.list (pdFs xs)
  | .tpn xs=>.tuple (pdFs xs)
  | .ro _=>.none
  | .ty _=>.none
  | .loc _=>.none
  | .glo _=>.none
  | .adr _=>.none
  | .clo _ _ _ _=>.none
  | .exn _ _ _ _=>.none
def pdFs:List D→List PyData
  | []=>[]
  | d::ds=>pdF d::pdFs ds
end
theorem l8:∀(ds:List D) (n:Nat),(∀d∈ds,(pdF d).canLay0=true∧(pdF d).depth≤n)→PyData.canLayAll0 (pdFs ds)=true∧PyData.depthAll (pdFs ds)≤n
  | [],n,_=>⟨by unfold pdFs PyData.canLayAll0; rfl,by unfold pdFs PyData.depthAll; omega⟩
  | d::ds,n,h=>by
    obtain ⟨a,b⟩:=h d List.mem_cons_self
    obtain ⟨c,e⟩:=l8 ds n fun x hx=>h x (List.mem_cons_of_mem _ hx)
    unfold pdFs PyData.canLayAll0 PyData.depthAll
    exact ⟨by rw[a,c]; rfl,by omega⟩
theorem eR:∀(n:Nat) (d:D),dok n d=true→(pdF d).canLay0=true∧(pdF d).depth≤n
  | n,.none,_=>by unfold pdF PyData.canLay0 PyData.depth; exact ⟨rfl,Nat.zero_le _⟩
  | n,.bool _,_=>by unfold pdF PyData.canLay0 PyData.depth; exact ⟨rfl,Nat.zero_le _⟩
  | n,.int _,_=>by unfold pdF PyData.canLay0 PyData.depth; exact ⟨rfl,Nat.zero_le _⟩
  | n,.str x,h=>by
    have h:PyData.strOk x=true:=by cases n<;>exact h
    unfold pdF PyData.canLay0 PyData.depth; exact ⟨h,Nat.zero_le _⟩
  | 0,.tup _,h=>by cases h
  | 0,.lst _,h=>by cases h
  | 0,.tpn _,h=>by cases h
  | n+1,.tpn xs,h=>by
    have h:xs.all (dok n)=true:=h
    have q:=l8 xs n fun d hd=>eR n d (List.all_eq_true.mp h d hd)
    unfold pdF PyData.canLay0 PyData.depth
    exact ⟨q.1,by omega⟩
  | n+1,.tup xs,h=>by
    have h:xs.all (dok n)=true:=h
    have q:=l8 xs n fun d hd=>eR n d (List.all_eq_true.mp h d hd)
    unfold pdF PyData.canLay0 PyData.depth
    exact ⟨q.1,by omega⟩
  | n+1,.lst xs,h=>by
    have h:xs.all (dok n)=true:=h
    have q:=l8 xs n fun d hd=>eR n d (List.all_eq_true.mp h d hd)
    unfold pdF PyData.canLay0 PyData.depth
    exact ⟨q.1,by omega⟩
  | n,.ro _,h=>by cases n<;>cases h
  | n,.ty _,h=>by cases n<;>cases h
  | n,.loc _,h=>by cases n<;>cases h
  | n,.glo _,h=>by cases n<;>cases h
  | n,.adr _,h=>by cases n<;>cases h
  | n,.clo _ _ _ _,h=>by cases n<;>cases h
  | n,.exn _ _ _ _,h=>by cases n<;>cases h
theorem dS {d:D} (h:dok 60 d=true):SeqAt.shaped (pdF d)=true:=by
  obtain ⟨a,b⟩:=eR 60 d h
  unfold SeqAt.shaped
  rw[a,Bool.true_and]
  exact decide_eq_true (by omega)
section
variable {K:PySem.W.Frag} {mg:Str→Option Value} {μ:Mu} {H:Hp}
mutual
theorem gJ:∀(n:Nat) (d:D) (v:V),dok n d=true→RepW K mg μ H d v→Dp K H v (pdF d)
  | n,.none,v,_,r=>by
    have r:Rep K mg μ H .none v:=r
    unfold Rep at r; subst r; unfold pdF; exact .non
  | n,.bool _,v,_,r=>by
    have r:Rep K mg μ H (.bool _) v:=r
    unfold Rep at r; subst r; unfold pdF; exact .bl _
  | n,.int _,v,_,r=>by rw[r.int]; unfold pdF; exact .int _
  | n,.str _,v,_,r=>by rw[r.str]; unfold pdF; exact .str _
  | 0,.tup _,_,h,_=>by cases h
  | 0,.lst _,_,h,_=>by cases h
  | n+1,.tup xs,v,h,r=>by
    obtain ⟨a,vs,e,h1,h2,_⟩:=r.tup
    subst e; unfold pdF
    exact .tup (.inl h1) (dps_of n xs vs h h2)
  | 0,.tpn _,_,h,_=>by cases h
  | n+1,.tpn xs,v,h,r=>by
    have r:Rep K mg μ H (.tpn xs) v:=r
    unfold Rep at r
    obtain ⟨a,vs,o,e,⟨h1,_⟩,nn,h2⟩:=r
    subst e; unfold pdF
    exact .tup (.inl (.inr ⟨o,h1⟩)) (dps_of n xs vs h h2)
  | n+1,.lst xs,v,h,r=>by
    obtain ⟨a,vs,e,h1,h2⟩:=r
    subst e; unfold pdF
    exact .lst (.of h1) (dps_of n xs vs h h2)
  | n,.ro _,_,h,_=>by cases n<;>cases h
  | n,.ty _,_,h,_=>by cases n<;>cases h
  | n,.loc _,_,h,_=>by cases n<;>cases h
  | n,.glo _,_,h,_=>by cases n<;>cases h
  | n,.adr _,_,h,_=>by cases n<;>cases h
  | n,.clo _ _ _ _,_,h,_=>by cases n<;>cases h
  | n,.exn _ _ _ _,_,h,_=>by cases n<;>cases h
theorem dps_of:∀(n:Nat) (ds:List D) (vs:List V),ds.all (dok n)=true→RepAll K mg μ H ds vs→DpAll K H vs (pdFs ds)
  | n,[],vs,_,r=>by unfold RepAll at r; subst r; unfold pdFs; exact .nil
  | n,d::ds,vs,h,r=>by
    unfold RepAll at r
    obtain ⟨v,q,rfl,h1,h2⟩:=r
    rw[List.all_cons,Bool.and_eq_true] at h
    unfold pdFs
    exact .cons (gJ n d v h.1 h1.w) (dps_of n ds q h.2 h2)
end
end
/-- == -/
def peq (a b:D):Bool:=PyData.eqv (pdF a) (pdF b)
def dEq:D→D→Option D:=fun a b=>if dok 60 a&&dok 60 b then some (.bool (peq a b)) else none
def dNe:D→D→Option D:=fun a b=>if dok 60 a&&dok 60 b then some (.bool (!peq a b)) else none
section
variable {X:Cx}
theorem i9 (hu:X.A.units+64<cLine):OpR X (compareOp .Eq) (rP X.K X.mg dEq):=rD (op_eqD hu) fun μ x y H Q a b d ra rb e q=>by
  unfold dEq at e
  split at e
  · rename_i h
    cases e
    rw[Bool.and_eq_true] at h
    exact ⟨_,_,gJ 60 a x h.1 ra,gJ 60 b y h.2 rb,dS h.1,dS h.2,q H _ .rfl (cR _)⟩
  · cases e
theorem jf (hu:X.A.units+64<cLine):OpR X (compareOp .NotEq) (rP X.K X.mg dNe):=rD (op_neD hu) fun μ x y H Q a b d ra rb e q=>by
  unfold dNe at e
  split at e
  · rename_i h
    cases e
    rw[Bool.and_eq_true] at h
    exact ⟨_,_,gJ 60 a x h.1 ra,gJ 60 b y h.2 rb,dS h.1,dS h.2,q H _ .rfl (cR _)⟩
  · cases e
/-- is None -/
def isN:D→Bool
  | .none=>true
  | _=>false
def dIsN:D→D→Option D
  | a,.none=>some (.bool (isN a))
  | _,_=>none
def dIsntN:D→D→Option D
  | a,.none=>some (.bool (!isN a))
  | _,_=>none
end
def cq:D→Option Key
  | .int i=>some (.inl i)
  | .str x=>some (.inr x)
  | _=>none
def jK:List D→Option (List Key)
  | []=>some []
  | d::ds=>match cq d,jK ds with
    | some k,some ks=>some (k::ks)
    | _,_=>none
def fW:D→Option (List Key)
  | .tup ds=>jK ds
  | _=>none
theorem mU {d:D} {k:Key} (h:cq d=some k):d=dt k:=by
  cases d<;>simp[cq] at h<;>subst h<;>rfl
theorem lT:∀ {ds:List D} {ks:List Key},jK ds=some ks→ds=ks.map dt
  | [],ks,h=>by simp[jK] at h; subst h; rfl
  | d::ds,ks,h=>by
    unfold jK at h
    split at h
    · rename_i k ks' h1 h2
      cases h
      rw[mU h1,lT h2]; rfl
    · cases h
theorem rE {d:D} {k:List Key} (h:fW d=some k):d=gH k:=by
  cases d<;>simp[fW] at h
  rw[lT h]; rfl
theorem jL (k:Key):cq (dt k)=some k:=by cases k<;>rfl
theorem mV:∀ks:List Key,jK (ks.map dt)=some ks
  | []=>rfl
  | k::ks=>by
    show (match cq (dt k),jK (ks.map dt) with|some k,some ks=>some (k::ks)|_,_=>none)=_
    rw[jL,mV ks]
theorem jg (k:List Key):fW (gH k)=some k:=mV k
end DL
namespace DL
open PySem PySem.Spec PyProof.Rows L2
def cg (t:Bool) (k:D):Bool:=if t then (fW k).isSome else (cq k).isSome
/-- two keys alike -/
def keq:Bool→D→D→Bool
  | false,a,b=>decide (cq a=cq b)
  | true,a,b=>decide (fW a=fW b)
def dD (t:Bool) (kvs:List (D × D)) (k:D):Option D:=(kvs.find? fun p=>keq t p.1 k).map (·.2)
section
variable {K:PySem.W.Frag} {mg:Str→Option Value} {μ:Mu} {H:Hp}
theorem ip {k:Key} {y:V} (h:Rep K mg μ H (dt k) y):y=kV k:=by
  cases k<;>(unfold dt Rep at h; exact h)
theorem rF:∀ {ks:List Key} {ys:List V},RepAll K mg μ H (ks.map dt) ys→ys=ks.map kV
  | [],ys,h=>by
    have h:RepAll K mg μ H [] ys:=h
    unfold RepAll at h; exact h
  | k::ks,ys,h=>by
    have h:RepAll K mg μ H (dt k::ks.map dt) ys:=h
    unfold RepAll at h
    obtain ⟨v,r,rfl,h1,h2⟩:=h
    rw[ip h1,rF h2]; rfl
theorem jh {k:List Key} {y:V} (h:Rep K mg μ H (gH k) y):∃b,y=.ref b∧H b=some (.tup (k.map kV)):=by
  unfold gH Rep at h
  obtain ⟨a,vs,e,h1,_,h2⟩:=h
  rw[rF h2] at h1
  exact ⟨a,e,h1⟩
/-- what is looked up in rows and in values alike -/
theorem iO {κ:Type} [DecidableEq κ] {f:κ→D} {g:D→D→Bool} (hg:∀a b,g (f a) (f b)=decide (a=b)) (k:κ):∀ {kvs:List (D × D)} {ks:List κ} {vs:List V},kvs.map (·.1)=ks.map f→RepAll K mg μ H (kvs.map (·.2)) vs→
    match (kvs.find? fun p=>g p.1 (f k)).map (·.2) with
    | some d=>∃v,valV (ks.zip vs) k=some v∧Rep K mg μ H d v
    | none=>valV (ks.zip vs) k=none
  | [],ks,vs,h,_=>by
    have:ks=[]:=by cases ks with|nil=>rfl|cons a b=>cases h
    subst this; rfl
  | (a,d)::kvs,[],vs,h,_=>by cases h
  | (a,d)::kvs,k'::ks,vs,h,r=>by
    have r:RepAll K mg μ H (d::kvs.map (·.2)) vs:=r
    unfold RepAll at r
    obtain ⟨v,q,rfl,r1,r2⟩:=r
    injection h with h1 h2
    have h1:a=f k':=h1
    subst h1
    have ih:=iO hg k h2 r2
    rw[List.find?_cons]
    by_cases e:k'=k
    · subst e
      have:g (f k') (f k')=true:=by rw[hg]; simp
      simp only[this]
      exact ⟨v,by rw[List.zip_cons_cons]; exact valV_pos rfl,r1⟩
    · have:g (f k') (f k)=false:=by rw[hg]; simp[e]
      simp only[this]
      rw[List.zip_cons_cons]
      rw[valV_neg e]
      exact ih
theorem rG (a b:Key):keq false (dt a) (dt b)=decide (a=b):=by
  show decide (cq (dt a)=cq (dt b))=_
  rw[jL,jL]
  by_cases h:a=b
  · subst h; simp
  · simp[h]
theorem vf (a b:List Key):keq true (gH a) (gH b)=decide (a=b):=by
  show decide (fW (gH a)=fW (gH b))=_
  rw[jg,jg]
  by_cases h:a=b
  · subst h; simp
  · simp[h]
theorem rH {k:D} (h:cg false k=true):∃kk,k=dt kk:=by
  unfold cg at h
  obtain ⟨kk,e⟩:=Option.isSome_iff_exists.mp h
  exact ⟨kk,mU e⟩
theorem vg {k:D} (h:cg true k=true):∃kk,k=gH kk:=by
  unfold cg at h
  obtain ⟨kk,e⟩:=Option.isSome_iff_exists.mp h
  exact ⟨kk,rE e⟩
/-- what a dict holds,locked or not -/
def dE:Option O→Option (Bool × List (D × D))
  | some (.dct t kvs)=>some (t,kvs)
  | some (.fdc t kvs)=>some (t,kvs)
  | _=>none
theorem jM {x:Option O} {t:Bool} {kvs:List (D × D)} (h:dE x=some (t,kvs)):x=some (.dct t kvs)∨x=some (.fdc t kvs):=by
  unfold dE at h
  split at h
  · cases h; exact .inl rfl
  · cases h; exact .inr rfl
  · cases h
theorem zd {t:Bool} {kvs:List (D × D)} {a:Addr} {k:D} {y:V} (h:RepO K mg μ H (.dct t kvs) a) (hk:cg t k=true) (r:Rep K mg μ H k y) :
    ∃o,DGet H a y o∧match dD t kvs k with
      | some d=>∃v,o=some v∧Rep K mg μ H d v
      | none=>o=none:=by
  cases t with
  | false=>
    obtain ⟨vs,ks,⟨e,q⟩,rs⟩:=h
    obtain ⟨kk,rfl⟩:=rH hk
    rw[ip r]
    exact ⟨_,.k e,iO rG kk q rs⟩
  | true=>
    obtain ⟨vs,ks,⟨e,q⟩,rs⟩:=h
    obtain ⟨kk,rfl⟩:=vg hk
    obtain ⟨b,rfl,hb⟩:=jh r
    exact ⟨_,.t e hb,iO vf kk q rs⟩
theorem xb {t:Bool} {kvs:List (D × D)} {a:Addr} {k:D} {y:V} (h:RepO K mg μ H (.fdc t kvs) a) (hk:cg t k=true) (r:Rep K mg μ H k y) :
    ∃o,DGet H a y o∧match dD t kvs k with
      | some d=>∃v,o=some v∧Rep K mg μ H d v
      | none=>o=none:=by
  cases t with
  | false=>
    obtain ⟨vs,ks,⟨⟨od,e⟩,q⟩,rs⟩:=h
    obtain ⟨kk,rfl⟩:=rH hk
    rw[ip r]
    exact ⟨_,.inl ⟨_,kk,.inr ⟨od,e⟩,rfl,rfl⟩,iO rG kk q rs⟩
  | true=>
    obtain ⟨vs,ks,⟨⟨od,e⟩,q⟩,rs⟩:=h
    obtain ⟨kk,rfl⟩:=vg hk
    obtain ⟨b,rfl,hb⟩:=jh r
    exact ⟨_,.inr ⟨_,kk,b,.inr ⟨od,e⟩,rfl,hb,rfl⟩,iO vf kk q rs⟩
theorem rJ {S:Sto} {l:Nat} {t:Bool} {kvs:List (D × D)} {a:Addr} {k:D} {y:V} (rs:RelS K mg μ H S) (hμ:μ.l[l]?=some a) (es:dE S[l]?=some (t,kvs)) (hk:cg t k=true) (r:Rep K mg μ H k y) :
    ∃o,DGet H a y o∧match dD t kvs k with
      | some d=>∃v,o=some v∧Rep K mg μ H d v
      | none=>o=none:=by
  rcases jM es with es|es
  · obtain ⟨ad',h1,ro⟩:=rs.at_ l _ es
    rw[hμ] at h1; cases h1
    exact zd ro hk r
  · obtain ⟨ad',h1,ro⟩:=rs.at_ l _ es
    rw[hμ] at h1; cases h1
    exact xb ro hk r
end
/-- whether a is in b -/
def dIn (S:Sto) (a b:D):Option Bool:=match view S b with
  | .lst xs=>if dok 60 a&&dok 60 (.lst xs) then some (xs.any fun z=>peq z a) else none
  | .tup xs=>if dok 60 a&&dok 60 (.tup xs) then some (xs.any fun z=>peq z a) else match view0 S a with
    | .lst ys=>if dok 60 (.lst ys)&&dok 60 (.tup xs) then some (xs.any fun z=>peq z (.lst ys)) else none
    | _=>none
  | .str z=>match a with
    | .str x=>if x.cps.size=1 then some (decide (x.cps.getD 0 0∈z.cps.toList)) else none
    | _=>none
  | .loc l=>match dE S[l]? with
    | some (t,kvs)=>if cg t a then some (dD t kvs a).isSome else none
    | none=>none
  | _=>none
def fIn:Sto→D→D→Option D:=fun S a b=>(dIn S a b).map .bool
def cj:Sto→D→D→Option D:=fun S a b=>(dIn S a b).map fun c=>.bool (!c)
theorem xc {x:Str} (h:x.cps.size=1):x=⟨#[x.cps.getD 0 0]⟩:=by
  obtain ⟨⟨l⟩⟩:=x
  match l,h with
  | [c],_=>rfl
theorem jN (a:D):∀xs:List D,((pdFs xs).any fun z=>PyData.eqv z (pdF a))=xs.any fun z=>peq z a
  | []=>by unfold pdFs; rfl
  | x::xs=>by unfold pdFs; rw[List.any_cons,List.any_cons,jN a xs]; rfl
section
variable {X:Cx}
theorem vh (hu:X.A.units+65<cLine) {pins:List (Addr × Obj)} {s:Shared} {σ:L2.St} {H:Hp} {x y:V} {v u:Value} {Q:Bool→Hp→Prop} {μ:Mu} {S:Sto} {a b:D} {c:Bool} (I:L2.Inv X pins σ H s) (rx:L2.RelV x v) (ry:L2.RelV y u)
    (rs:RelS X.K X.mg μ H S) (ra:Rep X.K X.mg μ H a x) (rb:Rep X.K X.mg μ H b y) (e:dIn S a b=some c) (q:Q c H) (neg:Bool) :
    wpAny (model X.prog X.w) X.A (compareOp (if neg then .NotIn else .In) v u) (fun r s'=>∃H',L2.Inv X pins σ H' s'∧r=.bool (if neg then !c else c)∧Q c H') X.xe s:=by
  unfold dIn at e
  have rw0:=rs.view rb
  split at e
  · rename_i xs ev
    rw[ev] at rw0
    split at e
    · rename_i h
      rw[Bool.and_eq_true] at h
      cases e
      have dy:=gJ 60 _ y h.2 rw0
      have dx:=gJ 60 a x h.1 ra.w
      obtain ⟨as,r1⟩:=Dp.reads I _ x v dx rx
      obtain ⟨bs,r2⟩:=Dp.reads I _ y u dy ry
      unfold pdF at r2
      have hl:=(eR 60 _ h.2).1
      unfold pdF at hl
      have sd:=dS h.1
      cases neg
      · exact SeqAt.in_list_reads r2 r1 hl (SeqAt.canLay_of_shaped sd) (room_in_shaped sd hu) ⟨H,I,by rw[jN]; rfl,q⟩
      · exact SeqAt.notIn_list_reads r2 r1 hl (SeqAt.canLay_of_shaped sd) (room_in_shaped sd hu) ⟨H,I,by rw[jN]; rfl,q⟩
    · cases e
  · rename_i xs ev
    rw[ev] at rw0
    split at e
    · rename_i h
      rw[Bool.and_eq_true] at h
      cases e
      have dy:=gJ 60 _ y h.2 rw0
      have dx:=gJ 60 a x h.1 ra.w
      obtain ⟨as,r1⟩:=Dp.reads I _ x v dx rx
      obtain ⟨bs,r2⟩:=Dp.reads I _ y u dy ry
      unfold pdF at r2
      have hl:=(eR 60 _ h.2).1
      unfold pdF at hl
      have sd:=dS h.1
      cases neg
      · exact SeqAt.in_tuple_reads r2 r1 hl (SeqAt.canLay_of_shaped sd) (room_in_shaped sd hu) ⟨H,I,by rw[jN]; rfl,q⟩
      · exact SeqAt.notIn_tuple_reads r2 r1 hl (SeqAt.canLay_of_shaped sd) (room_in_shaped sd hu) ⟨H,I,by rw[jN]; rfl,q⟩
    · have ra0:=rs.view0 ra
      split at e
      · rename_i ys eva
        rw[eva] at ra0
        split at e
        · rename_i h
          rw[Bool.and_eq_true] at h
          cases e
          have dy:=gJ 60 _ y h.2 rw0
          have dx:=gJ 60 (.lst ys) x h.1 (RepV.vt ra0)
          obtain ⟨as,r1⟩:=Dp.reads I _ x v dx rx
          obtain ⟨bs,r2⟩:=Dp.reads I _ y u dy ry
          unfold pdF at r2
          have hl:=(eR 60 _ h.2).1
          unfold pdF at hl
          have sd:=dS h.1
          cases neg
          · exact SeqAt.in_tuple_reads r2 r1 hl (SeqAt.canLay_of_shaped sd) (room_in_shaped sd hu) ⟨H,I,by rw[jN]; rfl,q⟩
          · exact SeqAt.notIn_tuple_reads r2 r1 hl (SeqAt.canLay_of_shaped sd) (room_in_shaped sd hu) ⟨H,I,by rw[jN]; rfl,q⟩
        · cases e
      · cases e
  · rename_i z ev
    rw[ev] at rw0
    split at e
    · rename_i x'
      split at e
      · rename_i h
        cases e
        have ex:x=.str x':=ra.w.str
        have ey:=rw0.str
        rw[xc h] at ex
        cases neg
        · refine thn (op_in_sign pins s σ H x y v u (fun w H'=>w=.bl (decide (x'.cps.getD 0 0∈z.cps.toList))∧H'=H) I rx ry ⟨_,z,ex,ey,rfl,rfl⟩) fun r s' ⟨w,H',I',rr,ew,eH⟩=>?_
          subst ew eH
          exact ⟨_,I',rr,q⟩
        · refine thn (op_notIn_sign pins s σ H x y v u (fun w H'=>w=.bl (!decide (x'.cps.getD 0 0∈z.cps.toList))∧H'=H) I rx ry ⟨_,z,ex,ey,rfl,rfl⟩) fun r s' ⟨w,H',I',rr,ew,eH⟩=>?_
          subst ew eH
          exact ⟨_,I',rr,q⟩
      · cases e
    · cases e
  · rename_i l ev
    rw[ev] at rw0
    have rw1:Rep X.K X.mg μ H (.loc l) y:=rw0
    unfold Rep at rw1
    obtain ⟨ad,rfl,hμ⟩:=rw1
    split at e
    · rename_i t kvs es
      split at e
      · rename_i hk
        cases e
        obtain ⟨o,g,m⟩:=rJ rs hμ es hk ra
        obtain rfl:u=Value.ref ad:=ry
        have ho:o.isSome=(dD t kvs a).isSome:=by
          cases el:dD t kvs a with
          | some d=>rw[el] at m; obtain ⟨v',e',_⟩:=m; rw[e']; rfl
          | none=>rw[el] at m; rw[show o=none from m]; rfl
        cases neg
        · exact d_in (by omega) I g rx fun s' I'=>⟨H,I',by rw[ho]; rfl,q⟩
        · exact d_notIn (by omega) I g rx fun s' I'=>⟨H,I',by rw[ho]; rfl,q⟩
      · cases e
    · cases e
  · cases e
theorem oQ (hu:X.A.units+65<cLine):OpR X (compareOp .In) (rS X.K X.mg fIn):=by
  intro pins s σ H x y v u Q I rx ry ⟨μ,S,a,b,d,rs,ra,rb,e,q⟩
  unfold fIn at e
  obtain ⟨c,e1,e2⟩:=Option.map_eq_some_iff.mp e
  subst e2
  exact thn (vh hu (Q:=fun c' H'=>c'=c∧H'=H) I rx ry rs ra rb e1 ⟨rfl,rfl⟩ false) fun r s' ⟨H',I',er,_,eH⟩=>by
    subst er eH
    exact ⟨.bl c,_,I',rfl,q _ _ .rfl (cR _)⟩
theorem cP (hu:X.A.units+65<cLine):OpR X (compareOp .NotIn) (rS X.K X.mg cj):=by
  intro pins s σ H x y v u Q I rx ry ⟨μ,S,a,b,d,rs,ra,rb,e,q⟩
  unfold cj at e
  obtain ⟨c,e1,e2⟩:=Option.map_eq_some_iff.mp e
  subst e2
  exact thn (vh hu (Q:=fun c' H'=>c'=c∧H'=H) I rx ry rs ra rb e1 ⟨rfl,rfl⟩ true) fun r s' ⟨H',I',er,_,eH⟩=>by
    subst er eH
    exact ⟨.bl (!c),_,I',rfl,q _ _ .rfl (cR _)⟩
end
def fIx (S:Sto) (a k:D):Option D:=match view S a with
  | .lst xs=>match k with
    | .int i=>atI xs i
    | _=>none
  | .tup xs=>match k with
    | .int i=>atI xs i
    | _=>none
  | .ro xs=>match k with
    | .int i=>atI xs i
    | _=>none
  | .str z=>match k with
    | .int i=>if z.length≤1000000 then (atI z.cps.toList i).map fun c=>.str ⟨#[c]⟩ else none
    | _=>none
  | .loc l=>match dE S[l]? with
    | some (t,kvs)=>if cg t k then dD t kvs k else none
    | none=>none
  | _=>none
theorem RepAll.atI {K:PySem.W.Frag} {mg:Str→Option Value} {μ:Mu} {H:Hp} {xs:List D} {vs:List V} {i:Int} {d:D} (r:RepAll K mg μ H xs vs) (h:L2.atI xs i=some d):∃v,L2.atI vs i=some v∧Rep K mg μ H d v:=by
  unfold L2.atI at *
  rw[←r.length]
  obtain ⟨j,h1,h2⟩:=Option.bind_eq_some_iff.mp h
  obtain ⟨v,e1,e2⟩:=r.get h2
  exact ⟨v,by rw[h1]; exact e1,e2⟩
section
variable {X:Cx} {W:WX} {a b:Expr} {pos:Pos} {ma mb:ME}
theorem ix_any (hu:X.A.units+1<cLine):IxR X (rS X.K X.mg fIx):=by
  intro value slice pins s σ H x y v u Q I rx ry ⟨μ,S,a,k,d,rs,ra,rb,e,q⟩ hs
  unfold fIx at e
  have rw0:=rs.view ra
  split at e
  · rename_i xs ev
    rw[ev] at rw0
    split at e
    · obtain ⟨p,vs,ep,hp,l⟩:=rw0
      obtain ⟨w,h1,h2⟩:=l.atI e
      exact ix_list value slice pins s σ H x y v u Q I rx ry ⟨p,vs,_,w,ep,rb.w.int,.of hp,h1,q H w .rfl h2⟩ hs
    · cases e
  · rename_i xs ev
    rw[ev] at rw0
    split at e
    · obtain ⟨p,vs,ep,hp,l,_⟩:=rw0.tup
      obtain ⟨w,h1,h2⟩:=l.atI e
      exact ix_tup value slice pins s σ H x y v u Q I rx ry ⟨p,vs,_,w,ep,rb.w.int,.inl hp,h1,q H w .rfl h2⟩ hs
    · cases e
  · rename_i xs ev
    rw[ev] at rw0
    split at e
    · have rw0:Rep X.K X.mg μ H (.ro xs) x:=rw0
      unfold Rep at rw0
      obtain ⟨p,vs,ep,hp,l⟩:=rw0
      obtain ⟨w,h1,h2⟩:=l.atI e
      exact ix_list value slice pins s σ H x y v u Q I rx ry ⟨p,vs,_,w,ep,rb.w.int,hp.sq,h1,q H w .rfl h2⟩ hs
    · cases e
  · rename_i z ev
    rw[ev] at rw0
    split at e
    · split at e
      · rename_i hz
        obtain ⟨c,h1,h2⟩:=Option.map_eq_some_iff.mp e
        subst h2
        exact ix_str value slice pins s σ H x y v u Q I rx ry ⟨z,_,c,rw0.str,rb.w.int,cp hz,h1,q H _ .rfl (gI _)⟩ hs
      · cases e
    · cases e
  · rename_i l ev
    rw[ev] at rw0
    have rw1:Rep X.K X.mg μ H (.loc l) x:=rw0
    unfold Rep at rw1
    obtain ⟨ad,rfl,hμ⟩:=rw1
    split at e
    · rename_i t kvs es
      split at e
      · rename_i hk
        obtain ⟨o,g,m⟩:=rJ rs hμ es hk rb
        rw[e] at m
        obtain ⟨w,eo,rw'⟩:=m
        subst eo
        obtain rfl:v=Value.ref ad:=rx
        have hT:=dict_typeIs I g
        unfold subscriptTail
        refine wpAny_bind ?_
        rw[getitemInPython_of_ne hT.not_modules]
        refine wpAny_bind (wpAny_specialOf hT PySem.F.slot_dict_getitem.lookup ?_)
        have fin:wpAny (model X.prog X.w) X.A (subscripted slice false (.ref ad) u) (fun r s₃=>wpAny (model X.prog X.w) X.A (letTemporaryGo value (.ref ad) r >>= fun _=>pure r) (EP X pins σ Q) X.xe s₃) X.xe s:=by
          rw[hs]
          exact wpAny_operating (thn (d_getItem hu I g ry fun w' s3 I3 rw2=>(⟨w,H,I3,rw2,q H w .rfl rw'⟩:EP X pins σ Q w' s3)) fun r s₃ h₃=>wpAny_bind (wpAny_letTemporaryGo (wpAny_pure h₃)))
        first
          | exact wpAny_pure (wpAny_bind fin)
          | exact wpAny_bind (wpAny_pure (wpAny_bind fin))
          | exact wpAny_bind fin
      · cases e
    · cases e
  · cases e
theorem aV (hu:X.A.units+1<cLine) (ha:PE X a (tE X W ma)) (hb:PE X b (tE X W mb)) (hs:PlainIx b:=by exact fun _ _=>rfl):PE X (.Subscript a b pos) (tE X W (aK fIx ma mb)):=
  cA (pe_ix (ix_any hu) ha hb hs) fun _ _ _ h=>vc h
end
def fX {α:Type} (xs:List α) (lo hi:Option Int):List α:=(xs.drop (HT.sIx xs.length 0 lo)).take (HT.sIx xs.length xs.length hi - HT.sIx xs.length 0 lo)
def qC (d:D) (lo hi:Option Int):Option D:=match d with
  | .lst xs=>some (.lst (fX xs lo hi))
  | .tup xs=>some (.tup (fX xs lo hi))
  | .tpn xs=>some (if HT.sIx xs.length 0 lo=0∧HT.sIx xs.length xs.length hi=xs.length then .tpn xs else .tup (fX xs lo hi))
  | .str z=>if z.length≤1000000 then some (.str (cutS z lo hi)) else none
  | _=>none
abbrev MP:=En→Sto→Res (Option Int)
def pNo:MP:=fun _ S=>.ok none S
def lU (m:ME):MP:=fun env S=>(m env S).bind fun d S=>match d with
  | .int i=>.ok (some i) S
  | _=>.stuck
def rK (m:ME) (ml mh:MP):ME:=fun env S=>(m env S).bind fun d S=>(ml env S).bind fun lo S=>(mh env S).bind fun hi S=>ofO S (qC (view0 S d) lo hi)
section
variable {X:Cx} {W:WX} {e:Expr} {pos p2:Pos} {m:ME} {ml mh:MP} {lo hi:Option Expr}
abbrev tP (X:Cx) (W:WX) (m:MP):L2.St→Hp→(Option Int→Hp→Prop)→Prop:=tM X (fun _ _ a b=>b=a) W m
def PO' (X:Cx) (W:WX) (o:Option Expr) (m:MP):Prop:=PO X o (tP X W m)
theorem rL:PO' X W none pNo:=⟨fun pins s σ H Q I h=>po_none.run pins s σ H Q I (by
  obtain ⟨env,S,μ,rl,o⟩:=h
  exact o μ H none .refl rl.sto rfl)⟩
theorem ji (h:PE X e (tE X W m)):PO' X W (some e) (lU m):=⟨fun pins s σ H Q I w=>(po_some h).run pins s σ H Q I (by
  obtain ⟨env,S,μ,rl,o⟩:=w
  refine ⟨env,S,μ,rl,(Out.bind o).mono fun x H1 ⟨μ1,S1,d,st,rs,r,o1⟩=>?_⟩
  cases d with
  | int i=>unfold Rep at r; exact ⟨i,r,o1 μ1 H1 _ .refl rs rfl⟩
  | _=>exact o1.elim)⟩
theorem sl_any:SlR X (fun x lo hi H Q=>∃μ S d d',RelS X.K X.mg μ H S∧RepV X.K X.mg μ H d x∧qC d lo hi=some d'∧∀H' v,Sm H H'→Rep X.K X.mg μ H' d' v→Q v H'):=by
  intro pins s σ H x v vl vu lo hi sl Q I rx hs pl pu ⟨μ,S,d,d',rs,r,e,q⟩
  unfold qC at e
  split at e
  · cases e
    obtain ⟨a,vs,ea,ha,l⟩:=r
    refine sl_list pins s σ H x v vl vu lo hi sl Q I rx hs pl pu ⟨a,vs,ea,.of ha,fun p hp=>q _ _ (.upd hp) ?_⟩
    refine bt rs hp ?_
    unfold fX cutV
    rw[←l.length]
    exact (l.drop _).take _
  · rename_i xs
    cases e
    have r':Rep X.K X.mg μ H (.tup xs) x:=r
    obtain ⟨a,vs,ea,ha,l,na⟩:=r.vt
    subst ea
    have el:cutV vs lo hi=(vs.drop (HT.sIx xs.length 0 lo)).take (HT.sIx xs.length xs.length hi - HT.sIx xs.length 0 lo):=by unfold cutV; rw[←l.length]
    refine sl_tupA pins s σ H _ v vl vu lo hi sl Q I rx hs pl pu ⟨a,vs,rfl,.inl ha,fun hw=>q H _ .rfl ?_,fun _ p hp=>q _ _ (.upd hp) ?_⟩
    · have:fX xs lo hi=xs:=by
        unfold fX
        rw[←l.length] at hw
        rw[hw.1,hw.2]; simp
      rw[this]
      exact r'
    · refine bQ rs hp ?_
      rw[el]
      unfold fX
      exact (l.drop _).take _
  · rename_i xs
    cases e
    have r':Rep X.K X.mg μ H (.tpn xs) x:=r
    obtain ⟨a,vs,ea,ha,l,na⟩:=r.vt
    subst ea
    have el:cutV vs lo hi=(vs.drop (HT.sIx xs.length 0 lo)).take (HT.sIx xs.length xs.length hi - HT.sIx xs.length 0 lo):=by unfold cutV; rw[←l.length]
    refine sl_tupA pins s σ H _ v vl vu lo hi sl Q I rx hs pl pu ⟨a,vs,rfl,.inl ha,fun hw=>q H _ .rfl ?_,fun hw p hp=>q _ _ (.upd hp) ?_⟩
    · rw[←l.length] at hw
      rw[if_pos hw]
      exact r'
    · rw[←l.length] at hw
      rw[if_neg hw]
      refine bQ rs hp ?_
      rw[el]
      unfold fX
      exact (l.drop _).take _
  · split at e
    · rename_i hz
      cases e
      exact sl_str pins s σ H x v vl vu lo hi sl Q I rx hs pl pu ⟨_,RepV.str r,cp hz,q H _ .rfl (gI _)⟩
    · cases e
  · cases e
theorem mW (he:PE X e (tE X W m)) (hl:PO' X W lo ml) (hh:PO' X W hi mh):PE X (.Subscript e (.Slice lo hi none p2) pos) (tE X W (rK m ml mh)):=
  cA (pe_slice sl_any he hl hh) fun σ H Q ⟨env,S,μ,rl,o⟩=>by
    refine ⟨env,S,μ,rl,(Out.bind o).mono fun x H1 ⟨μ1,S1,d,st,rs,r,o1⟩=>?_⟩
    refine ⟨env,S1,μ1,⟨rl.env.step st,rs⟩,(Out.bind o1).mono fun lo' H2 ⟨μ2,S2,dl,st2,rs2,rl2,o2⟩=>?_⟩
    subst rl2
    refine ⟨env,S2,μ2,⟨(rl.env.step st).step st2,rs2⟩,(Out.bind o2).mono fun hi' H3 ⟨μ3,S3,dh,st3,rs3,rh3,o3⟩=>?_⟩
    subst rh3
    cases e:qC (view0 S3 d) lo' hi' with
    | none=>rw[e] at o3; exact o3.elim
    | some d'=>
      rw[e] at o3
      exact ⟨μ3,S3,_,d',rs3,rs3.view0 (Rep.step st3 _ _ (Rep.step st2 _ _ r)),e,fun H' v sm rr=>o3 μ3 H' v (.of_sm sm) (rs3.sm sm) rr⟩
end
end DL
namespace DL
open PySem PySem.Spec PyProof.Rows L2
def eC (d:D):ME:=fun _ S=>.ok d S
def eV (i:Nat):ME:=fun env S=>match env[i]? with
  | some (some d)=>.ok d S
  | _=>.stuck
section
variable {X:Cx} {W:WX} {a b c e:Expr} {pos:Pos} {m ma mb mc:ME} {ta tb tc:MT} {rest:List Expr}
theorem rN {te:TE} {d:D} (h:PE X e te) (i:∀σ H Q μ S,RelS X.K X.mg μ H S→(∀v,Rep X.K X.mg μ H d v→Q v H)→te σ H Q):PE X e (tE X W (eC d)):=
  cA h fun σ H Q ⟨env,S,μ,rl,o⟩=>i σ H Q μ S rl.sto fun v r=>o μ H v .refl rl.sto r
theorem aE {i j}:PE X (.Constant (.int i) j pos) (tE X W (eC (.int i))):=rN pe_int fun _ _ _ _ _ _ q=>q _ (az _)
theorem bA {i j}:PE X (.Constant (.bool i) j pos) (tE X W (eC (.bool i))):=rN pe_bl fun _ _ _ _ _ _ q=>q _ (cR _)
theorem l9 {j}:PE X (.Constant .none j pos) (tE X W (eC .none)):=rN pe_non fun _ _ _ _ _ _ q=>q _ mS
theorem b8 {i j}:PE X (.Constant (.str i) j pos) (tE X W (eC (.str i))):=rN pe_str fun _ _ _ _ _ _ q=>q _ (gI _)
theorem aB (i:Nat) {x:Str} (hN:X.N[i]?=some x:=by rfl) (hv:Vis X.env.scope x:=by first|exact Or.inl rfl|exact Or.inr (Or.inl rfl)|exact Or.inr (Or.inr rfl)) (hd:(x == ("__debug__":Str))=false:=by decide)
    (hcd:(x == ("__classdict__":Str))=false:=by decide):PE X (.Name x pos) (tE X W (eV i)):=
  cA (pe_var hN hv hd hcd) fun σ H Q ⟨env,S,μ,rl,o⟩=>by
    unfold eV at o
    cases e:env[i]? with
    | none=>simp only[e] at o; exact o.elim
    | some w=>
      cases w with
      | none=>simp only[e] at o; exact o.elim
      | some d=>
        simp only[e] at o
        obtain ⟨v,h1,h2⟩:=rl.env.at_ i d e
        exact ⟨v,h1,o μ H v .refl rl.sto h2⟩
theorem ze {x:Str} {i:Int} {t} (hg:Gl X x) (hm:X.mg x=some (.int i t)) (hd:(x == ("__debug__":Str))=false:=by decide):PE X (.Name x pos) (tE X W (eC (.int i))):=
  rN (pe_glob (v:=.int i) hg hm ⟨_,rfl⟩ hd) fun _ _ _ _ _ _ q=>q _ (az _)
theorem zf {x:Str} {i:Str} {t} (hg:Gl X x) (hm:X.mg x=some (.str i t)) (hd:(x == ("__debug__":Str))=false:=by decide):PE X (.Name x pos) (tE X W (eC (.str i))):=
  rN (pe_glob (v:=.str i) hg hm ⟨_,rfl⟩ hd) fun _ _ _ _ _ _ q=>q _ (gI _)
theorem dw {x:Str} {n:String} (hg:Gl X x) (hm:X.mg x=none) (hv:bootBuiltins x=some (.type n)) (hn:x≠"__name__":=by decide) (hd:(x == ("__debug__":Str))=false:=by decide):PE X (.Name x pos) (tE X W (eC (.ty n))):=
  rN (pe_bltn (v:=.ty n) hg hm hv rfl hn hd) fun _ _ _ _ _ _ q=>q _ (by unfold Rep; rfl)
theorem bu {x:Str} {a:Addr} (hg:Gl X x) (hm:X.mg x=some (.ref a)) (hd:(x == ("__debug__":Str))=false:=by decide):PE X (.Name x pos) (tE X W (eC (.glo x))):=
  rN (pe_glob (v:=.ref a) hg hm rfl hd) fun _ _ _ _ _ _ q=>q _ (by unfold Rep; exact ⟨a,rfl,hm⟩)
def gG (S:Sto) (d:D):Option Bool:=match view S d with
  | .none=>some false
  | .bool b=>some b
  | .int i=>some (i != 0)
  | .str x=>if x.length≤1000000 then some ((x.length:Int) != 0) else none
  | .tup xs=>some (!xs.isEmpty)
  | .lst xs=>some (!xs.isEmpty)
  | .ro xs=>some (!xs.isEmpty)
  | .loc l=>match S[l]? with
    | some (.dct false kvs)=>some (!kvs.isEmpty)
    | _=>none
  | _=>none
theorem iP {K:PySem.W.Frag} {mg:Str→Option Value} {μ:Mu} {H:Hp} {xs:List D} {vs:List V} (r:RepAll K mg μ H xs vs):xs.isEmpty=vs.isEmpty:=by
  cases xs with
  | nil=>unfold RepAll at r; subst r; rfl
  | cons a b=>unfold RepAll at r; obtain ⟨v,q,rfl,_⟩:=r; rfl
theorem qD {K:PySem.W.Frag} {mg:Str→Option Value} {μ:Mu} {H:Hp} {S:Sto} {d:D} {x:V} {k:Bool} (rs:RelS K mg μ H S) (r:Rep K mg μ H d x) (e:gG S d=some k):TruV K x H k:=by
  unfold gG at e
  have w:=rs.view r
  split at e
  · rename_i ev
    rw[ev] at w; cases e
    have w:Rep K mg μ H .none x:=w
    unfold Rep at w; subst w; rfl
  · rename_i ev
    rw[ev] at w; cases e
    have w:Rep K mg μ H (.bool _) x:=w
    unfold Rep at w; subst w; rfl
  · rename_i ev
    rw[ev] at w; cases e
    rw[w.int]; rfl
  · rename_i ev
    rw[ev] at w
    split at e
    · rename_i hz
      cases e
      rw[w.str]; exact ⟨cp hz,rfl⟩
    · cases e
  · rename_i ev
    rw[ev] at w; cases e
    obtain ⟨a,vs,rfl,h,l,_⟩:=w.tup
    exact .inr (.inl ⟨vs,.inl h,by rw[iP l]⟩)
  · rename_i ev
    rw[ev] at w; cases e
    obtain ⟨a,vs,rfl,h,l⟩:=w
    exact .inl ⟨vs,.of h,by rw[iP l]⟩
  · rename_i ev
    rw[ev] at w; cases e
    have w:Rep K mg μ H (.ro _) x:=w
    unfold Rep at w
    obtain ⟨a,vs,rfl,h,l⟩:=w
    exact .inl ⟨vs,h.sq,by rw[iP l]⟩
  · rename_i l ev
    rw[ev] at w
    have w:Rep K mg μ H (.loc l) x:=w
    unfold Rep at w
    obtain ⟨a,rfl,hμ⟩:=w
    split at e
    · rename_i kvs es
      cases e
      obtain ⟨a',h1,vs,ks,⟨h2,hk⟩,l⟩:=rs.at_ _ _ es
      rw[hμ] at h1; cases h1
      refine .inr (.inr ⟨_,h2,?_⟩)
      cases kvs with
      | nil=>
        cases ks with
        | nil=>rfl
        | cons a b=>cases hk
      | cons p q=>
        cases ks with
        | nil=>cases hk
        | cons a b=>
          have l:RepAll K mg μ H (p.2::q.map (·.2)) vs:=l
          unfold RepAll at l
          obtain ⟨v,r,rfl,_⟩:=l
          rfl
    · cases e
  · cases e
def cB (m:ME):MT:=fun env S=>(m env S).bind fun d S=>ofO S (gG S d)
theorem t_tru {σ:L2.St} {H:Hp} {Q:Bool→Hp→Prop} (h:tT X W (cB m) σ H Q):tE X W m σ H fun x H'=>∃k,TruV X.K x H' k∧Q k H':=by
  obtain ⟨env,S,μ,rl,o⟩:=h
  refine ⟨env,S,μ,rl,(Out.bind o).mono fun x H1 ⟨μ1,S1,d,st,rs,r,o1⟩=>?_⟩
  cases e:gG S1 d with
  | none=>rw[e] at o1; exact o1.elim
  | some k=>rw[e] at o1; exact ⟨k,qD rs r e,o1 μ1 H1 k .refl rs rfl⟩
theorem ay (h:PE X a (tE X W m)) (he:∀whole,isTrue a X.env whole=(do let v ←whole; standAt a.pos; holding [v] (truthy v)):=by exact fun _=>rfl):PT X a (tT X W (cB m)):=
  vZ (pt_truth h he) fun σ H Q w=>t_tru w
def mX (ma mb:MT):MT:=fun env S=>(ma env S).bind fun c S=>if c=true then mb env S else .ok false S
def c9 (ma mb:MT):MT:=fun env S=>(ma env S).bind fun c S=>if c=true then .ok true S else mb env S
def bW (ma:MT):MT:=fun env S=>(ma env S).bind fun c S=>.ok (!c) S
theorem vi (h:PT X a (tT X W ta)):PW X (.BoolOp .And [a] pos) (tT X W ta):=pw_and1 h
theorem cK (h:PT X a (tT X W ta)):PW X (.BoolOp .Or [a] pos) (tT X W ta):=pw_or1 h
theorem qE (ha:PT X a (tT X W ta)) (hb:PW X (.BoolOp .And (b::rest) pos) (tT X W tb)):PW X (.BoolOp .And (a::b::rest) pos) (tT X W (mX ta tb)):=
  pw_to (pw_and ha hb) fun σ H Q ⟨env,S,μ,rl,o⟩=>⟨env,S,μ,rl,(Out.bind o).mono fun x H1 ⟨μ1,S1,d,st,rs,r,o1⟩=>by
    subst r
    cases x with
    | true=>exact ⟨env,S1,μ1,⟨rl.env.step st,rs⟩,o1⟩
    | false=>exact o1 μ1 H1 _ .refl rs rfl⟩
theorem cO (ha:PT X a (tT X W ta)) (hb:PW X (.BoolOp .Or (b::rest) pos) (tT X W tb)):PW X (.BoolOp .Or (a::b::rest) pos) (tT X W (c9 ta tb)):=
  pw_to (pw_or ha hb) fun σ H Q ⟨env,S,μ,rl,o⟩=>⟨env,S,μ,rl,(Out.bind o).mono fun x H1 ⟨μ1,S1,d,st,rs,r,o1⟩=>by
    subst r
    cases x with
    | false=>exact ⟨env,S1,μ1,⟨rl.env.step st,rs⟩,o1⟩
    | true=>exact o1 μ1 H1 _ .refl rs rfl⟩
theorem bv {op es} (h:PW X (.BoolOp op es pos) (tT X W ta)):PT X (.BoolOp op es pos) (tT X W ta):=h.pt
theorem bN (ha:PT X a (tT X W ta)):PT X (.UnaryOp .Not a pos) (tT X W (bW ta)):=
  vZ (pt_not ha) fun σ H Q ⟨env,S,μ,rl,o⟩=>⟨env,S,μ,rl,(Out.bind o).mono fun x H1 ⟨μ1,S1,d,st,rs,r,o1⟩=>by
    subst r
    exact o1 μ1 H1 _ .refl rs rfl⟩
def jj (ma mb:ME):ME:=fun env S=>(ma env S).bind fun d S=>(ofO S (gG S d)).bind fun c S=>if c=true then mb env S else .ok d S
def eOr (ma mb:ME):ME:=fun env S=>(ma env S).bind fun d S=>(ofO S (gG S d)).bind fun c S=>if c=true then .ok d S else mb env S
def eNot (ma:ME):ME:=fun env S=>(ma env S).bind fun d S=>(ofO S (gG S d)).bind fun c S=>.ok (.bool (!c)) S
def eIf (tc:MT) (ma mb:ME):ME:=fun env S=>(tc env S).bind fun c S=>if c=true then ma env S else mb env S
theorem iQ {op} (h:PE X a (tE X W m)):PE X (.BoolOp op [a] pos) (tE X W m):=pe_one h
theorem fY (ha:PE X a (tE X W ma)) (hb:PE X (.BoolOp .And (b::rest) pos) (tE X W mb)):PE X (.BoolOp .And (a::b::rest) pos) (tE X W (jj ma mb)):=
  cA (pe_andT ha hb) fun σ H Q ⟨env,S,μ,rl,o⟩=>⟨env,S,μ,rl,(Out.bind o).mono fun x H1 ⟨μ1,S1,d,st,rs,r,o1⟩=>by
    cases e:gG S1 d with
    | none=>rw[e] at o1; exact o1.elim
    | some k=>
      rw[e] at o1
      refine ⟨k,qD rs r e,?_⟩
      cases k with
      | true=>exact ⟨env,S1,μ1,⟨rl.env.step st,rs⟩,o1⟩
      | false=>exact o1 μ1 H1 _ .refl rs r⟩
theorem sE_not (ha:PE X a (tE X W ma)):PE X (.UnaryOp .Not a pos) (tE X W (eNot ma)):=
  cA (pe_notT ha) fun σ H Q ⟨env,S,μ,rl,o⟩=>⟨env,S,μ,rl,(Out.bind o).mono fun x H1 ⟨μ1,S1,d,st,rs,r,o1⟩=>by
    cases e:gG S1 d with
    | none=>rw[e] at o1; exact o1.elim
    | some k=>
      rw[e] at o1
      exact ⟨k,qD rs r e,o1 μ1 H1 _ .refl rs (cR _)⟩⟩
theorem vj (hc:PT X c (tT X W tc)) (ha:PE X a (tE X W ma)) (hb:PE X b (tE X W mb)):PE X (.IfExp c a b pos) (tE X W (eIf tc ma mb)):=
  cA (pe_ifExp hc ha hb) fun σ H Q ⟨env,S,μ,rl,o⟩=>⟨env,S,μ,rl,(Out.bind o).mono fun x H1 ⟨μ1,S1,d,st,rs,r,o1⟩=>by
    subst r
    cases x with
    | true=>exact ⟨env,S1,μ1,⟨rl.env.step st,rs⟩,o1⟩
    | false=>exact ⟨env,S1,μ1,⟨rl.env.step st,rs⟩,o1⟩⟩
def eNeg (ma:ME):ME:=fun env S=>(ma env S).bind fun d S=>match d with
  | .int i=>.ok (.int (-i)) S
  | _=>.stuck
theorem uR (ha:PE X a (tE X W ma)):PE X (.UnaryOp .USub a pos) (tE X W (eNeg ma)):=
  cA (pe_un un_neg ha) fun σ H Q ⟨env,S,μ,rl,o⟩=>⟨env,S,μ,rl,(Out.bind o).mono fun x H1 ⟨μ1,S1,d,st,rs,r,o1⟩=>by
    cases d with
    | int i=>unfold Rep at r; exact ⟨i,r,o1 μ1 H1 _ .refl rs (az _)⟩
    | _=>exact o1.elim⟩
def jO (f g:Sto→D→D→Option D) (ma mb mc:ME):ME:=fun env S=>(ma env S).bind fun a S=>(mb env S).bind fun b S=>match f S a b with
  | some (.bool true)=>(mc env S).bind fun c S=>ofO S (g S b c)
  | some (.bool false)=>.ok (.bool false) S
  | _=>.stuck
theorem vk {f g:Sto→D→D→Option D} {σ:L2.St} {H:Hp} {Q:VK} (h:tE X W (jO f g ma mb mc) σ H Q):tChain (rS X.K X.mg f) (rS X.K X.mg g) (tE X W ma) (tE X W mb) (tE X W mc) σ H Q:=by
  obtain ⟨env,S,μ,rl,o⟩:=h
  refine ⟨env,S,μ,rl,(Out.bind o).mono fun x H1 ⟨μ1,S1,da,st,rs,ra,o1⟩=>?_⟩
  refine ⟨env,S1,μ1,⟨rl.env.step st,rs⟩,(Out.bind o1).mono fun y H2 ⟨μ2,S2,db,st2,rs2,rb,o2⟩=>?_⟩
  cases e:f S2 da db with
  | none=>simp only[e] at o2; exact o2.elim
  | some d=>
    simp only[e] at o2
    refine ⟨μ2,S2,_,_,d,rs2,Rep.step st2 _ _ ra,rb,e,fun H' v sm r=>?_⟩
    cases d with
    | bool k=>
      unfold Rep at r
      refine ⟨k,r,?_⟩
      have st3:Step μ2 H2 μ2 H':=.of_sm sm
      cases k with
      | false=>exact o2 μ2 H' _ st3 (rs2.sm sm) (cR _)
      | true=>
        refine ⟨env,S2,μ2,⟨((rl.env.step st).step st2).step st3,rs2.sm sm⟩,(Out.bind (Out.of_step st3 o2)).mono fun z H4 ⟨μ4,S4,dc,st4,rs4,rc,o4⟩=>?_⟩
        cases e2:g S4 db dc with
        | none=>rw[e2] at o4; exact o4.elim
        | some d2=>
          rw[e2] at o4
          exact ⟨μ4,S4,_,_,d2,rs4,Rep.step st4 _ _ (Rep.step st3 _ _ rb),rc,e2,fun H5 v5 sm5 r5=>o4 μ4 H5 v5 (.of_sm sm5) (rs4.sm sm5) r5⟩
    | _=>exact o2.elim
theorem xf {op op':CmpOp} {f g:Sto→D→D→Option D} (ho:OpR X (compareOp op) (rS X.K X.mg f)) (ho':OpR X (compareOp op') (rS X.K X.mg g)) (ha:PE X a (tE X W ma)) (hb:PE X b (tE X W mb)) (hc:PE X c (tE X W mc))
    (hm:lastMarks [op,op'] [b,c]=false:=by with_unfolding_all rfl):PE X (.Compare a [op,op'] [b,c] pos) (tE X W (jO f g ma mb mc)):=cA (pe_chain ho ho' ha hb hc hm) fun _ _ _ h=>vk h
theorem xg {op op':CmpOp} {f g:Sto→D→D→Option D} (ho:OpR X (compareOp op) (rS X.K X.mg f)) (ho':OpR X (compareOp op') (rS X.K X.mg g)) (ha:PE X a (tE X W ma)) (hb:PE X b (tE X W mb)) (hc:PE X c (tE X W mc))
    (hm:lastMarks [op,op'] [b,c]=false:=by with_unfolding_all rfl):PT X (.Compare a [op,op'] [b,c] pos) (tT X W (tOf (jO f g ma mb mc))):=vZ (pt_chain ho ho' ha hb hc hm) fun σ H Q h=>by
    obtain ⟨env,S,μ,rl,o⟩:=t_of h
    exact vk ⟨env,S,μ,rl,o⟩
def aJ:MA:=fun _ S=>.ok [] S
def aC (m:ME) (r:MA):MA:=fun env S=>(m env S).bind fun d S=>(r env S).bind fun ds S=>.ok (d::ds) S
theorem aD:PA X [] (tAs X W aJ):=pa_to pa_nil fun σ H Q ⟨env,S,μ,rl,o⟩=>o μ H [] .refl rl.sto .nil
theorem aA {es:List Expr} {r:MA} (he:PE X e (tE X W m)) (hr:PA X es (tAs X W r)) (hs:starEach (e::es) X.env=(false,eval e X.env)::starEach es X.env:=by rfl):PA X (e::es) (tAs X W (aC m r)):=
  pa_to (pa_cons he hr hs) fun σ H Q ⟨env,S,μ,rl,o⟩=>⟨env,S,μ,rl,(Out.bind o).mono fun x H1 ⟨μ1,S1,d,st,rs,rd,o1⟩=>
    ⟨env,S1,μ1,⟨rl.env.step st,rs⟩,(Out.bind o1).mono fun xs H2 ⟨μ2,S2,ds,st2,rs2,rds,o2⟩=>o2 μ2 H2 _ .refl rs2 (.cons (Rep.step st2 _ _ rd) rds)⟩⟩
def cZ (r:MA):ME:=fun env S=>(r env S).bind fun ds S=>if ds.length≤1000000 then .ok (.tup ds) S else .stuck
def dF (r:MA):ME:=fun env S=>(r env S).bind fun ds S=>if ds.length≤1000000 then .ok (.lst ds) S else .stuck
def iR (r:MA):ME:=fun env S=>(r env S).bind fun ds S=>if ds.length≤1000000 then .ok (.loc S.length) (S++[.lst ds]) else .stuck
variable {es:List Expr} {r:MA}
theorem bC {x1} (h:PA X es (tAs X W r)):PE X (.Tuple es x1 pos) (tE X W (cZ r)):=cA (pe_tup h) fun σ H Q ⟨env,S,μ,rl,o⟩=>⟨env,S,μ,rl,(Out.bind o).mono fun xs H1 ⟨μ1,S1,ds,st,rs,rd,o1⟩=>by
  split at o1
  · rename_i hz
    exact ⟨by rw[←rd.length]; exact cp hz,fun p hp=>o1 μ1 _ _ (.of_sm (.upd hp)) (rs.sm (.upd hp)) (bQ rs hp rd)⟩
  · exact o1.elim⟩
theorem bn (h:PA X es (tAs X W r)):PE X (.List es pos) (tE X W (dF r)):=cA (pe_lst h) fun σ H Q ⟨env,S,μ,rl,o⟩=>⟨env,S,μ,rl,(Out.bind o).mono fun xs H1 ⟨μ1,S1,ds,st,rs,rd,o1⟩=>by
  split at o1
  · rename_i hz
    exact ⟨by rw[←rd.length]; exact cp hz,fun p hp=>o1 μ1 _ _ (.of_sm (.upd hp)) (rs.sm (.upd hp)) (bt rs hp rd)⟩
  · exact o1.elim⟩
end
theorem mB {K:PySem.W.Frag} {mg:Str→Option Value} {μ:Mu} {H:Hp} {S:Sto} {p:Addr} {ho:HO} {o:O} (rs:RelS K mg μ H S) (hp:H p=none) (r:RepO K mg (μ.push p) (upd H p ho) o p) :
    Step μ H (μ.push p) (upd H p ho)∧RelS K mg (μ.push p) (upd H p ho) (S++[o])∧Rep K mg (μ.push p) (upd H p ho) (.loc S.length) (.ref p):=by
  refine ⟨.new_loc hp,rs.push hp r,?_⟩
  unfold Rep
  exact ⟨p,rfl,by rw[rs.len]; simp[Mu.push]⟩
theorem vm {K:PySem.W.Frag} {mg:Str→Option Value} {μ:Mu} {H:Hp} {S:Sto} {p:Addr} {ds:List D} {vs:List V} (rs:RelS K mg μ H S) (hp:H p=none) (r:RepAll K mg μ H ds vs) :
    Step μ H (μ.push p) (upd H p (.lst vs))∧RelS K mg (μ.push p) (upd H p (.lst vs)) (S++[.lst ds])∧Rep K mg (μ.push p) (upd H p (.lst vs)) (.loc S.length) (.ref p):=
  mB rs hp ⟨vs,upd_same,RepAll.step (.new_loc hp) _ _ r⟩
section
variable {X:Cx} {W:WX} {pos:Pos} {es:List Expr} {r:MA}
theorem gK (h:PA X es (tAs X W r)):PE X (.List es pos) (tE X W (iR r)):=cA (pe_lst h) fun σ H Q ⟨env,S,μ,rl,o⟩=>⟨env,S,μ,rl,(Out.bind o).mono fun xs H1 ⟨μ1,S1,ds,st,rs,rd,o1⟩=>by
  split at o1
  · rename_i hz
    refine ⟨by rw[←rd.length]; exact cp hz,fun p hp=>?_⟩
    obtain ⟨a,b,c⟩:=vm rs hp rd
    exact o1 _ _ _ a b c
  · exact o1.elim⟩
/-- {} -/
def qF (t:Bool):ME:=fun _ S=>.ok (.loc S.length) (S++[.dct t []])
theorem iq:PE X (.Dict [] [] pos) (tE X W (qF true)):=cA pe_dnewT fun σ H Q ⟨env,S,μ,rl,o⟩ p hp=>by
  obtain ⟨a,b,c⟩:=mB (o:=.dct true []) (ho:=.dT []) rl.sto hp ⟨[],[],⟨upd_same,rfl⟩,.nil⟩
  exact o _ _ _ a b c
end
end DL
namespace DL
open PySem PySem.Spec PyProof.Rows L2
inductive RS where
  | next (env:En) (S:Sto)|brk (env:En) (S:Sto)|cont (env:En) (S:Sto)|ret (d:D) (S:Sto)|exc (e:XV) (env:En) (S:Sto)|stuck
abbrev MS:=En→Sto→RS
abbrev MG:=D→En→Sto→Option (En × Sto)
def Res.rs {α:Type} (env:En):Res α→(α→Sto→RS)→RS
  | .ok a S,k=>k a S
  | .exc e S,_=>.exc e env S
  | .stuck,_=>.stuck
def RS.andThen:RS→(En→Sto→RS)→RS
  | .next env S,k=>k env S
  | .brk env S,_=>.brk env S
  | .cont env S,_=>.cont env S
  | .ret d S,_=>.ret d S
  | .exc e env S,_=>.exc e env S
  | .stuck,_=>.stuck
section
variable (K:PySem.W.Frag) (mg:Str→Option Value)
def OutS (W:WX) (μ:Mu) (H:Hp) (D:Ends):RS→Prop
  | .next env S=>∀μ' H' σ',Step μ H μ' H'→RelE K mg μ' H' env σ'→RelS K mg μ' H' S→D.nx σ' H'
  | .brk env S=>∀μ' H' σ',Step μ H μ' H'→RelE K mg μ' H' env σ'→RelS K mg μ' H' S→D.bk σ' H'
  | .cont env S=>∀μ' H' σ',Step μ H μ' H'→RelE K mg μ' H' env σ'→RelS K mg μ' H' S→D.ct σ' H'
  | .ret d S=>∀μ' H' v,Step μ H μ' H'→RelS K mg μ' H' S→Rep K mg μ' H' d v→D.rt v H'
  | .exc e env S=>∀μ' H' σ' cls dd,Step μ H μ' H'→RelE K mg μ' H' env σ'→RelS K mg μ' H' S→RepX K mg μ' H' e cls dd→W cls dd σ' H'
  | .stuck=>False
end
section
variable {K:PySem.W.Frag} {mg:Str→Option Value} {α β:Type} {W:WX} {σ:L2.St} {μ μ1:Mu} {H H1:Hp} {R:Mu→Hp→α→β→Prop} {D D':Ends} {r:RS} {env:En}
theorem OutS.of_step (st:Step μ H μ1 H1) (o:OutS K mg W μ H D r):OutS K mg W μ1 H1 D r:=by
  cases r with
  | next e S=>exact fun μ' H' σ' s=>o μ' H' σ' (st.trans s)
  | brk e S=>exact fun μ' H' σ' s=>o μ' H' σ' (st.trans s)
  | cont e S=>exact fun μ' H' σ' s=>o μ' H' σ' (st.trans s)
  | ret e S=>exact fun μ' H' σ' s=>o μ' H' σ' (st.trans s)
  | exc e v S=>exact fun μ' H' σ' c d s=>o μ' H' σ' c d (st.trans s)
  | stuck=>exact o
theorem OutS.mono (o:OutS K mg W μ H D r) (h1:∀σ H,D.nx σ H→D'.nx σ H) (h2:∀σ H,D.bk σ H→D'.bk σ H) (h3:∀σ H,D.ct σ H→D'.ct σ H) (h4:∀v H,D.rt v H→D'.rt v H):OutS K mg W μ H D' r:=by
  cases r with
  | next e S=>exact fun μ' H' σ' s t u=>h1 _ _ (o μ' H' σ' s t u)
  | brk e S=>exact fun μ' H' σ' s t u=>h2 _ _ (o μ' H' σ' s t u)
  | cont e S=>exact fun μ' H' σ' s t u=>h3 _ _ (o μ' H' σ' s t u)
  | ret e S=>exact fun μ' H' σ' s t u=>h4 _ _ (o μ' H' σ' s t u)
  | exc e v S=>exact o
  | stuck=>exact o
theorem OutS.andThen {k:En→Sto→RS} (o:OutS K mg W μ H D (r.andThen k)) :
    OutS K mg W μ H { D with nx:=fun σ1 H1=>∃μ1 env1 S1,Step μ H μ1 H1∧RelE K mg μ1 H1 env1 σ1∧RelS K mg μ1 H1 S1∧OutS K mg W μ1 H1 D (k env1 S1) } r:=by
  cases r with
  | next e S=>exact fun μ' H' σ' s t u=>⟨μ',e,S,s,t,u,OutS.of_step s o⟩
  | brk e S=>exact o
  | cont e S=>exact o
  | ret e S=>exact o
  | exc e v S=>exact o
  | stuck=>exact o
theorem OutS.rs {x:Res α} {k:α→Sto→RS} (re:RelE K mg μ H env σ) (o:OutS K mg W μ H D (x.rs env k)) :
    Out K mg W σ μ H R (fun b H1=>∃μ1 S1 a,Step μ H μ1 H1∧RelS K mg μ1 H1 S1∧R μ1 H1 a b∧OutS K mg W μ1 H1 D (k a S1)) x:=by
  cases x with
  | ok a S=>exact fun μ' H' b s t u=>⟨μ',S,a,s,t,u,OutS.of_step s o⟩
  | exc e S=>exact fun μ' H' c d s t u=>o μ' H' σ c d s (re.step s) t u
  | stuck=>exact o
end
def tS (X:Cx) (W:WX) (m:MS):TS:=fun D σ H=>∃env S μ,Rl X.K X.mg μ H env σ S∧OutS X.K X.mg W μ H D (m env S)
def OutO (K:PySem.W.Frag) (mg:Str→Option Value) (μ:Mu) (H:Hp) (Q:L2.St→Hp→Prop):Option (En × Sto)→Prop
  | some (e,S)=>∀μ' H' σ',Step μ H μ' H'→RelE K mg μ' H' e σ'→RelS K mg μ' H' S→Q σ' H'
  | none=>False
theorem OutO.of_step {K:PySem.W.Frag} {mg:Str→Option Value} {μ μ1:Mu} {H H1:Hp} {Q:L2.St→Hp→Prop} {r:Option (En × Sto)} (st:Step μ H μ1 H1) (o:OutO K mg μ H Q r):OutO K mg μ1 H1 Q r:=by
  cases r with
  | none=>exact o
  | some p=>exact fun μ' H' σ' s=>o μ' H' σ' (st.trans s)
def tG (X:Cx) (g:MG):TG:=fun v σ H Q=>∃env S μ d,Rl X.K X.mg μ H env σ S∧Rep X.K X.mg μ H d v∧OutO X.K X.mg μ H Q (g d env S)
abbrev MGs:=List D→En→Sto→Option (En × Sto)
def tGs (X:Cx) (g:MGs):TGs:=fun vs σ H Q=>∃env S μ ds,Rl X.K X.mg μ H env σ S∧RepAll X.K X.mg μ H ds vs∧OutO X.K X.mg μ H Q (g ds env S)
theorem fZ {X:Cx} {s:Stmt} {t t':TS} (h:PS X s t) (i:∀D σ H,t' D σ H→t D σ H):PS X s t':=⟨fun pins s σ H D I w=>h.run pins s σ H D I (i D σ H w)⟩
theorem mY {X:Cx} {s:List Stmt} {t t':TS} (h:PSs X s t) (i:∀D σ H,t' D σ H→t D σ H):PSs X s t':=⟨fun pins s σ H D I w=>h.run pins s σ H D I (i D σ H w)⟩
theorem rO {X:Cx} {e:Expr} {t t':TG} (h:PG X e t) (i:∀v σ H Q,t' v σ H Q→t v σ H Q):PG X e t':=⟨fun pins s σ H v u Q I r w=>h.run pins s σ H v u Q I r (i v σ H Q w)⟩
theorem qG {X:Cx} {e:List Expr} {t t':TGs} (h:PGs X e t) (i:∀v σ H Q,t' v σ H Q→t v σ H Q):PGs X e t':=⟨fun pins s σ H v u Q I r w=>h.run pins s σ H v u Q I r (i v σ H Q w)⟩
def bo:MS:=fun env S=>.next env S
def aT (a b:MS):MS:=fun env S=>(a env S).andThen b
section
variable {X:Cx} {W:WX} {st:Stmt} {rest body:List Stmt} {a b:MS} {e c:Expr} {pos:Pos} {m:ME} {tc:MT}
theorem aZ:PSs X [] (tS X W bo):=mY pss_nil fun D σ H ⟨env,S,μ,rl,o⟩=>o μ H σ .refl rl.env rl.sto
theorem aG (h1:PS X st (tS X W a)) (h2:PSs X rest (tS X W b)):PSs X (st::rest) (tS X W (aT a b)):=
  mY (pss_cons h1 h2) fun D σ H ⟨env,S,μ,rl,o⟩=>⟨env,S,μ,rl,(OutS.andThen o).mono (fun σ1 H1 ⟨μ1,env1,S1,st,re,rs,o1⟩=>⟨env1,S1,μ1,⟨re,rs⟩,o1⟩) (fun _ _ h=>h) (fun _ _ h=>h) (fun _ _ h=>h)⟩
theorem aL (h1:PS X st (tS X W a)):PSs X [st] (tS X W a):=mY (pss_one h1) fun _ _ _ h=>h
def dW (m:ME):MS:=fun env S=>(m env S).rs env fun _ S=>.next env S
theorem cC (he:PE X e (tE X W m)) (hs:swapsWith e none pos.line X.env=pure false:=by rfl):PS X (.Expr e pos) (tS X W (dW m)):=
  fZ (ps_expr he hs) fun D σ H ⟨env,S,μ,rl,o⟩=>⟨env,S,μ,rl,(OutS.rs rl.env o).mono fun x H1 ⟨μ1,S1,d,st,rs,r,o1⟩=>o1 μ1 H1 σ .refl (rl.env.step st) rs⟩
def bH (m:ME):MS:=fun env S=>(m env S).rs env fun d S=>.ret d S
theorem aW (he:PE X e (tE X W m)):PS X (.Return (some e) pos) (tS X W (bH m)):=
  fZ (ps_ret he) fun D σ H ⟨env,S,μ,rl,o⟩=>⟨env,S,μ,rl,(OutS.rs rl.env o).mono fun x H1 ⟨μ1,S1,d,st,rs,r,o1⟩=>o1 μ1 H1 x .refl rs r⟩
def sRetN:MS:=fun _ S=>.ret .none S
def xh:MS:=fun env S=>.brk env S
def sCont:MS:=fun env S=>.cont env S
/-- never come to -/
def jP:MS:=fun _ _=>.stuck
def xi:ME:=fun _ _=>.stuck
def sIf (tc:MT) (a b:MS):MS:=fun env S=>(tc env S).rs env fun c S=>if c=true then a env S else b env S
theorem bK {ba bb:List Stmt} (hc:PT X c (tT X W tc)) (ha:PSs X ba (tS X W a)) (hb:PSs X bb (tS X W b)):PS X (.If c ba bb pos) (tS X W (sIf tc a b)):=
  fZ (ps_if hc ha hb) fun D σ H ⟨env,S,μ,rl,o⟩=>⟨env,S,μ,rl,(OutS.rs rl.env o).mono fun x H1 ⟨μ1,S1,d,st,rs,r,o1⟩=>by
    subst r
    cases x with
    | true=>exact ⟨env,S1,μ1,⟨rl.env.step st,rs⟩,o1⟩
    | false=>exact ⟨env,S1,μ1,⟨rl.env.step st,rs⟩,o1⟩⟩
def gV (i:Nat):MG:=fun d env S=>some (env.set i (some d),S)
theorem ai {i:Nat} {x:Str} (hN:X.N.Nodup) (hi:X.N[i]?=some x) (hx:Loc X.env.scope x) (hf:X.fn x=true∨X.env.scope.names.lookup x=some .local:=by first|exact .inl rfl|exact .inr rfl|assumption):PG X (.Name x pos) (tG X (gV i)):=
  rO (pg_name hN hi hx hf) fun v σ H Q ⟨env,S,μ,d,rl,r,o⟩=>o μ H _ .refl (rl.env.set r) rl.sto
def gL:MGs:=fun ds env S=>match ds with
  | []=>some (env,S)
  | _=>none
def bI (g:MG) (gs:MGs):MGs:=fun ds env S=>match ds with
  | d::ds=>(g d env S).bind fun p=>gs ds p.1 p.2
  | []=>none
theorem gy:PGs X [] (tGs X gL):=qG pgs_nil fun vs σ H Q ⟨env,S,μ,ds,rl,r,o⟩=>by
  cases ds with
  | nil=>unfold RepAll at r; exact ⟨r,o μ H σ .refl rl.env rl.sto⟩
  | cons a b=>exact o.elim
theorem bM {es:List Expr} {g:MG} {gs:MGs} (h1:PG X e (tG X g)) (h2:PGs X es (tGs X gs))
    (hs:(assignEach (e::es) X.env).map (·.2)=assign e X.env::(assignEach es X.env).map (·.2):=by rfl):PGs X (e::es) (tGs X (bI g gs)):=
  qG (pgs_cons h1 h2 hs) fun vs σ H Q ⟨env,S,μ,ds,rl,r,o⟩=>by
    cases ds with
    | nil=>exact o.elim
    | cons d ds=>
      unfold RepAll at r
      obtain ⟨v,q,rfl,r1,r2⟩:=r
      refine ⟨v,q,rfl,env,S,μ,d,rl,r1,?_⟩
      have o:OutO X.K X.mg μ H Q ((g d env S).bind fun p=>gs ds p.1 p.2):=o
      cases hq:g d env S with
      | none=>rw[hq] at o; exact o.elim
      | some p=>
        rw[hq] at o
        exact fun μ' H' σ' s t u=>⟨p.1,p.2,μ',ds,⟨t,u⟩,RepAll.step s _ _ r2,OutO.of_step s o⟩
def fO (n:Nat) (gs:MGs):MG:=fun d env S=>match vt d with
  | .tup ds=>if ds.length=n then gs ds env S else none
  | _=>none
theorem jQ {es:List Expr} {k:Nat} {n:Nat} {gs:MGs} (hc:X.calm=true) (h:PGs X es (tGs X gs))
    (hn:(assignEach es X.env).length=n:=by rfl) (hst:(assignEach es X.env).findIdx? (·.1)=none:=by rfl):PG X (.Tuple es k pos) (tG X (fO n gs)):=
  rO (pg_tup hc h hn hst) fun v σ H Q ⟨env,S,μ,d,rl,r,o⟩=>by
    unfold fO at o
    split at o
    · rename_i ds ev
      by_cases hl:ds.length=n
      · simp only[hl,if_true] at o
        have w:=r.wv.vt
        rw[ev] at w
        obtain ⟨a,vs,rfl,h1,h2,_⟩:=w
        exact ⟨a,vs,rfl,.inl h1,by rw[←h2.length]; exact hl,env,S,μ,ds,rl,h2,o⟩
      · simp only[hl,if_false] at o; exact o.elim
    · exact o.elim
def ofG:Option (En × Sto)→RS
  | some p=>.next p.1 p.2
  | none=>.stuck
theorem zg {K:PySem.W.Frag} {mg:Str→Option Value} {μ:Mu} {H:Hp} {D:Ends} {r:Option (En × Sto)} (o:OutS K mg W μ H D (ofG r)):OutO K mg μ H D.nx r:=by
  cases r with
  | none=>exact o
  | some p=>exact o
def gz (m:ME) (g:MG):MS:=fun env S=>(m env S).rs env fun d S=>ofG (g d env S)
theorem dA {tg:Expr} {g:MG} (he:PE X e (tE X W m)) (hg:PG X tg (tG X g)) (hs:swapsWithSole [tg] e pos.line X.env=pure false:=by rfl) (hw:swappedStores [tg] e X.env=pure none:=by rfl)
    (h1:(assignEach [tg] X.env).map (·.2)=[assign tg X.env]:=by rfl):PS X (.Assign [tg] e pos) (tS X W (gz m g)):=
  fZ (ps_asg he hg hs hw h1) fun D σ H ⟨env,S,μ,rl,o⟩=>⟨env,S,μ,rl,(OutS.rs rl.env o).mono fun x H1 ⟨μ1,S1,d,st,rs,r,o1⟩=>⟨env,S1,μ1,d,⟨rl.env.step st,rs⟩,r,zg o1⟩⟩
/-- a,b=x,y,both plain local names -/
def rQ (i j:Nat) (r:MA):MS:=fun env S=>(r env S).rs env fun ds S=>match ds with
  | [a,b]=>.next ((env.set i (some a)).set j (some b)) S
  | _=>.stuck
theorem mZ {i j:Nat} {x y:Str} {e1 e2:Expr} {r:MA} {px py pt:Pos} {kt k2 pt2} (hc:X.calm=true) (hN:X.N.Nodup) (hi:X.N[i]?=some x) (hj:X.N[j]?=some y) (hij:i≠j)
    (hx:X.env.scope.names.lookup x=some .local) (hy:X.env.scope.names.lookup y=some .local) (ha:PA X [e1,e2] (tAs X W r))
    (hw:swappedStores [.Tuple [.Name x px,.Name y py] kt pt] (.Tuple [e1,e2] k2 pt2) X.env=pure (some [x,y]):=by rfl)
    (hs:swapsWithSole [.Tuple [.Name x px,.Name y py] kt pt] (.Tuple [e1,e2] k2 pt2) pos.line X.env=pure false:=by rfl) :
    PS X (.Assign [.Tuple [.Name x px,.Name y py] kt pt] (.Tuple [e1,e2] k2 pt2) pos) (tS X W (rQ i j r)):=
  fZ (ps_par hc hN hi hj hij hx hy ha hw hs) fun D σ H ⟨env,S,μ,rl,o⟩=>⟨env,S,μ,rl,(OutS.rs rl.env o).mono fun vs H1 ⟨μ1,S1,ds,st,rs,r,o1⟩=>by
    match ds,o1 with
    | [a,b],o1=>
      unfold RepAll at r
      obtain ⟨v,q,rfl,r1,r2⟩:=r
      unfold RepAll at r2
      obtain ⟨w,q,rfl,r2,r3⟩:=r2
      unfold RepAll at r3
      subst r3
      exact ⟨v,w,rfl,o1 μ1 H1 _ .refl (((rl.env.step st).set r1).set r2) rs⟩⟩
def bF (i:Nat) (m:ME):MS:=fun env S=>(m env S).rs env fun d S=>.next (env.set i (some d)) S
theorem aj {i:Nat} {x:Str} {pos':Pos} (hN:X.N.Nodup) (hi:X.N[i]?=some x) (hx:Loc X.env.scope x) (he:PE X e (tE X W m)) (hs:swapsWith e (some (.Name x pos')) pos.line X.env=pure false:=by rfl) (hf:X.fn x=true∨X.env.scope.names.lookup x=some .local:=by first|exact .inl rfl|exact .inr rfl|assumption) :
    PS X (.Assign [.Name x pos'] e pos) (tS X W (bF i m)):=
  fZ (ps_set hN hi hx he hs hf) fun D σ H ⟨env,S,μ,rl,o⟩=>⟨env,S,μ,rl,(OutS.rs rl.env o).mono fun x H1 ⟨μ1,S1,d,st,rs,r,o1⟩=>o1 μ1 H1 _ .refl ((rl.env.step st).set r) rs⟩
/-- x op= e -/
def sAug (i:Nat) (f:Sto→D→D→Option D) (m:ME):MS:=fun env S=>match env[i]? with
  | some (some a)=>(m env S).rs env fun b S=>match f S a b with
    | some d=>.next (env.set i (some d)) S
    | none=>.stuck
  | _=>.stuck
def gS (c:MT) (b:MS):Nat→MS
  | 0=>fun _ _=>.stuck
  | n+1=>fun env S=>(c env S).rs env fun k S=>if k=true then (match b env S with
    | .next env S=>gS c b n env S
    | .cont env S=>gS c b n env S
    | .brk env S=>.next env S
    | .ret d S=>.ret d S
    | .exc e env S=>.exc e env S
    | .stuck=>.stuck) else .next env S
theorem rR (hp:PassesOwn (model X.prog X.w) X.A X.env X.xe) (n:Nat) (hc:PT X c (tT X W tc)) (hb:PSs X body (tS X W b)):PS X (.While c body [] pos) (tS X W (gS tc b n)):=
  fZ (ps_while hp hc hb) fun D σ H ⟨env,S,μ,rl,o⟩=>by
    refine ⟨fun n σ H=>∃env S μ,Rl X.K X.mg μ H env σ S∧OutS X.K X.mg W μ H D (gS tc b n env S),⟨n,env,S,μ,rl,o⟩,?_⟩
    rintro n σ H ⟨env,S,μ,rl,o⟩
    cases n with
    | zero=>exact o.elim
    | succ n=>
      unfold gS at o
      refine ⟨env,S,μ,rl,(OutS.rs rl.env o).mono fun k H1 ⟨μ1,S1,k',st,rs,r,o1⟩=>?_⟩
      subst r
      cases k with
      | false=>exact o1 μ1 H1 σ .refl (rl.env.step st) rs
      | true=>
        refine ⟨fun σ H=>∃env S μ,Rl X.K X.mg μ H env σ S∧OutS X.K X.mg W μ H D (gS tc b n env S),fun σ' H' w=>⟨n,Nat.lt_succ_self n,w⟩,env,S1,μ1,⟨rl.env.step st,rs⟩,?_⟩
        simp only[if_true] at o1
        cases hb:b env S1 with
        | next e S=>rw[hb] at o1; exact fun μ' H' σ' s t u=>⟨e,S,μ',⟨t,u⟩,OutS.of_step s o1⟩
        | cont e S=>rw[hb] at o1; exact fun μ' H' σ' s t u=>⟨e,S,μ',⟨t,u⟩,OutS.of_step s o1⟩
        | brk e S=>rw[hb] at o1; exact o1
        | ret d S=>rw[hb] at o1; exact o1
        | exc e v S=>rw[hb] at o1; exact o1
        | stuck=>rw[hb] at o1; exact o1
end
end DL
namespace PySem
open PySem PySem.Sem
set_option maxHeartbeats 1000000 in
theorem jk {v:Value} {o:Obj} {H:Heap→Prop} (B:Begins v o H) :
    Meets (Builtin.«enumerate.__new__» ⟨[.type "enumerate",v],[]⟩) (fun _ R s=>H s.heap∧
      R (.ok (.ret (.ref (s.heap.push o).objs.size))) { s with heap:=(s.heap.push o).push { cls:=.type "enumerate",data:=.fields #[.none,.bool false,.ref s.heap.objs.size,rawInt 0,.none,.none] } }):=
  .of_wp fun prog w A R s h=>by
    obtain ⟨hp,g,d,tk,os⟩:=s; obtain ⟨h1,h⟩:=h
    have hsub:=sub_enumerate
    have q1:∀ {A':Around} {E:Value→Shared→Prop} {Q:Value→Shared→Prop},Q (.ref hp.objs.size) ⟨hp.push o,g,d,tk,os⟩→wpAny (model prog w) A' (pyIter v) Q E ⟨hp,g,d,tk,os⟩:=
      fun q=>B.iter prog w _ _ ⟨hp,g,d,tk,os⟩ _ h1 q
    wp_walk using q1
    refine wpAny_stack_any fun st=>wpAny_pure ?_
    split
    · rename_i c _ _ _ _ _
      cases (c == Value.type "enumerate")
      · wp_walk using q1
        exact ⟨_,rfl,h⟩
      · wp_walk using q1
        exact ⟨_,rfl,h⟩
    · wp_walk using q1
      exact ⟨_,rfl,h⟩
theorem dl_enum_begins {prog:Program} {w:World} {A:Around} {E:Value→Shared→Prop} {s:Shared} {v:Value} {o:Obj} {H:Heap→Prop} {Q:Value→Shared→Prop} (B:Begins v o H) (h1:H s.heap)
    (h:∀h',IsEnum h' (s.heap.objs.size+1) s.heap.objs.size 0 .none→h'.get? s.heap.objs.size=some o→h'.objs.size=s.heap.objs.size+2→
      (∀b o,s.heap.get? b=some o→h'.get? b=some o)→Q (.ref (s.heap.objs.size+1)) { s with heap:=h' }) :
    wpAny (model prog w) A (call (.type "enumerate") [v]) Q E s:=by
  refine callType_new F.called_enumerate (by decide) (F.typeCall_enumerate_1 _) (F.newCall_enumerate_1 _) (fun obj=>F.args_object_init_2 obj _) F.entry_enumerate_new
    (jk B) ⟨h1,?_⟩
  have hz:(s.heap.push o).objs.size=s.heap.objs.size+1:=Heap.size_push ..
  show _∧_
  rw[hz]
  have he:IsEnum ((s.heap.push o).push { cls:=.type "enumerate",data:=.fields #[.none,.bool false,.ref s.heap.objs.size,rawInt 0,.none,.none] }) (s.heap.objs.size+1) s.heap.objs.size 0 .none:=by
    have:=Heap.get?_push_size (s.heap.push o) (o:={ cls:=.type "enumerate",data:=.fields #[.none,.bool false,.ref s.heap.objs.size,rawInt 0,.none,.none] }) rfl
    rw[hz] at this; exact this
  refine ⟨⟨_,he,rfl⟩,h _ he (Heap.get?_push_of_some _ (Heap.get?_push_size _ B.free)) (by rw[Heap.size_push,hz]) fun b o x=>Heap.get?_push_of_some _ (Heap.get?_push_of_some _ x)⟩
end PySem
namespace DL
open PySem PySem.Spec PyProof.Rows L2
theorem xj {H:Hp} {a b:Addr} {u:HO} (h:Rd H a u) (n:H b=none):a≠b:=fun z=>by
  subst z
  rcases h with h|⟨o,h⟩<;>(rw[n] at h; cases h)
def IteT (a:Addr):It:=
  ⟨fun i H=>∃(xs:List V) (x:V),Rd H a (.tup xs)∧xs[i]?=some x,fun i H v H'=>∃T x,v=.ref T∧H T=none∧H'=upd H T (.tup [.int (i:Nat),x])∧∀xs,Rd H a (.tup xs)→xs[i]?=some x,fun i H=>∃xs:List V,Rd H a (.tup xs)∧xs.length=i⟩
theorem uS {P:Program} {w:World} {K:PySem.W.Frag} {elts:List Expr} {kk:Nat} {tpos:Pos} (a e it:Addr) :
    Turn P w K (.Tuple elts kk tpos) (IteT a) [e,it] e (fun i h=>(∃old,IsEnum h e it ((i:Nat):Int) old)∧h.IsTupleIter it a i∧e≠it) where
  mem:=by simp
  obj:=fun i h st b hb=>by
    obtain ⟨⟨old,he⟩,⟨o,ho,hc,hd⟩,_⟩:=st
    have e':b=e∨b=it:=by simpa using hb
    rcases e' with z|z
    · rw[z]; exact ⟨_,he,fun v q=>nomatch q⟩
    · rw[z]; exact ⟨o,ho,fun v q=>by rw[hd] at q; cases q⟩
  keep:=fun i h h' st k=>let ⟨⟨old,he⟩,hi,hne⟩:=st; ⟨⟨old,k e (by simp) _ he⟩,hi.at fun o q=>k it (by simp) o q,hne⟩
  item:=by
    intro X hP hw hK hc i pins s σ H E I hf st hg
    subst hP hw hK
    obtain ⟨⟨old,he⟩,hit,hne⟩:=st
    obtain ⟨xs,x,hq,hx⟩:=hg
    obtain ⟨its,rv,p,hz⟩:=I.tuple (.inl hq)
    obtain ⟨u,hu,ru⟩:=rv.get hx
    have hel:e<s.heap.objs.size:=Heap.lt_size he
    have hil:it<s.heap.objs.size:=by obtain ⟨_,q,_⟩:=hit; exact Heap.lt_size q
    have hai:a≠it:=xj hq (hf it (by simp)).1
    have hae:a≠e:=xj hq (hf e (by simp)).1
    have D:=PySem.Draws.tuple (prog:=X.prog) (w:=X.w) (A:=X.A.in1) (I.ok.hd hc) it a hai its.toArray
    have hlt:i<its.toArray.size:=by
      have:=(List.getElem?_eq_some_iff.mp hu).1
      simpa using this
    refine PySem.wpAny_pyNext_enum_itemD D he ⟨hit,p⟩ hlt hne (by simp[hne,hae.symm]) fun x' h' tk hx' ho hit' hT hsz hk=>?_
    have ex:x'=u:=by
      have q:its.toArray[i]?=some x':=hx'
      have q2:its.toArray[i]?=some u:=by simpa using hu
      rw[q] at q2; exact Option.some.inj q2
    subst ex
    refine ⟨_,rfl,wpAny_letOwnedTupleGo_enum (s:={ s with heap:=h',toks:=tk+1 }) ho fun h'' he' sb=>?_⟩
    have hT2:h''.get? s.heap.objs.size=some { cls:=.type "tuple",data:=.seq #[.int i tk,x'] }:=(sb.2 _ (Nat.ne_of_gt hel)).trans hT
    have new:ObjOk X.prog X.w (upd H s.heap.objs.size (.tup [.int (i:Nat),x])) h'' s.heap.objs.size (.tup [.int (i:Nat),x]):=
      ⟨by show 2≤sizeLine; decide,[.int i tk,x'],.cons ⟨_,rfl⟩ (.cons ru .nil),⟨_,hT2,rfl,_,rfl⟩⟩
    have I1:L2.Inv X pins σ (upd H s.heap.objs.size (.tup [.int (i:Nat),x])) { s with heap:=h'',toks:=tk+1 }:=
      I.turnedNew (ch:=[e,it]) (fun b ob hb q=>(sb.2 b (fun z=>hb (by simp[z]))).trans (hk b ob (fun z=>hb (by simp[z])) (fun z=>hb (by simp[z])) q)) hf (Nat.le_refl _) new
    refine ⟨.ref s.heap.objs.size,_,I1,rfl,⟨_,x,rfl,I.hok.fresh (Nat.le_refl _),rfl,fun ys hy=>by rw[I.tuple_inj (.inl hy) (.inl hq)]; exact hx⟩,⟨⟨x',?_⟩,hit'.1.at fun o q=>(sb.2 it (Ne.symm hne)).trans q,hne⟩,fun b hb=>?_⟩
    · have e1:((i+1:Nat):Int)=(i:Int)+1:=by omega
      rw[e1]; exact he'
    · have hb':b<s.heap.objs.size:=by
        have e':b=e∨b=it:=by simpa using hb
        rcases e' with z|z
        · rw[z]; exact hel
        · rw[z]; exact hil
      rw[upd_ne (Nat.ne_of_lt hb')]
      exact (hf b hb).1
  done:=by
    intro X hP hw hK hc i pins s σ H E I hf st hg
    subst hP hw hK
    obtain ⟨⟨old,he⟩,hit,hne⟩:=st
    obtain ⟨xs,hq,hx⟩:=hg
    obtain ⟨its,rv,p,hz⟩:=I.tuple (.inl hq)
    obtain ⟨f0,f1,f2,f3,f4,f5⟩:=hf it (by simp)
    have hl:=rv.length
    have hai:a≠it:=xj hq (hf it (by simp)).1
    have hsz:its.toArray.size=i:=by simp; omega
    have D:=PySem.Draws.tuple (prog:=X.prog) (w:=X.w) (A:=X.A.in1) (I.ok.hd hc) it a hai its.toArray
    exact PySem.wpAny_pyNext_enum_endD D he (show _ from ⟨by rw[hsz]; exact hit,p⟩) fun h' eb=>⟨rfl,I.turned (t':=s.toks) (fun b o hb q=>eb b o hb q) f0 f1 f3 f4 f5⟩
  self:=fun A i s Q E st h=>let ⟨⟨_,he⟩,_⟩:=st; wpAny_pyIter_enum he h
inductive ItD where
  | items (ds:List D)|live (l:Nat)|liveE (l:Nat)
abbrev MI:=En→Sto→Res ItD
structure dZ (K:PySem.W.Frag) (mg:Str→Option Value) (μ1:Mu) (H1:Hp) (ds:List D) (J:It):Prop where
  goes:∀i μ H,i<ds.length→Stp μ1 H1 μ H→J.go i H
  stops:∀μ H,Stp μ1 H1 μ H→J.stop ds.length H
  yields:∀i d μ H S x H',ds[i]?=some d→Stp μ1 H1 μ H→RelS K mg μ H S→J.yld i H x H'→Sm H H'∧Rep K mg μ H' d x
def WalkOk (K:PySem.W.Frag) (mg:Str→Option Value) (μ1:Mu) (H1:Hp):ItD→It→Prop
  | .items ds,J=>dZ K mg μ1 H1 ds J
  | .live l,J=>∃a,μ1.l[l]?=some a∧J=Itl K a
  | .liveE l,J=>∃a,μ1.l[l]?=some a∧J=Ite K a
def tI (X:Cx) (W:WX) (mi:MI):TI:=fun σ H R=>tM X (fun μ H it J=>WalkOk X.K X.mg μ H it J) W mi σ H R
theorem xk {X:Cx} {tg e:Expr} {t t':TI} (h:PI X tg e t) (i:∀σ H R,t' σ H R→t σ H R):PI X tg e t':=⟨fun pins s σ H R I w=>h.run pins s σ H R I (i σ H R w)⟩
def iS (z:Str):List D:=z.cps.toList.map fun c=>.str ⟨#[c]⟩
def bO (S:Sto) (d:D):Option ItD:=match vt d with
  | .tup xs=>some (.items xs)
  | .lst xs=>some (.items xs)
  | .ro xs=>some (.items xs)
  | .str z=>some (.items (iS z))
  | .loc l=>match S[l]? with
    | some (.lst _)=>some (.live l)
    | some (.fdc _ kvs)=>some (.items (kvs.map (·.1)))
    | _=>none
  | _=>none
def cM (m:ME):MI:=fun env S=>(m env S).bind fun d S=>ofO S (bO S d)
section
variable {K:PySem.W.Frag} {mg:Str→Option Value} {μ:Mu} {H:Hp} {a:Addr} {xs:List D} {vs:List V}
theorem wY (h:Rd H a (.tup vs)) (n:a∉μ) (r:RepAll K mg μ H xs vs):dZ K mg μ H xs (Itt K a) where
  goes:=fun i μ' H' hi st=>⟨vs,vs[i]'(by rw[←r.length]; exact hi),.inl (dO st h n).1,by simp⟩
  stops:=fun μ' H' st=>⟨vs,.inl (dO st h n).1,by rw[r.length]; exact Nat.le_refl _⟩
  yields:=fun i d μ' H' S x H2 e st rs y=>by
    obtain ⟨rfl,y⟩:=y
    obtain ⟨v,h1,h2⟩:=r.get e
    have q:=y vs (.inl (dO st h n).1)
    rw[h1] at q; cases q
    exact ⟨.rfl,Rep.stp st _ _ h2⟩
theorem oj (h:L2.SqL K H a vs) (hs:∀μ' H',Stp μ H μ' H'→L2.SqL K H' a vs) (r:RepAll K mg μ H xs vs):dZ K mg μ H xs (Itl K a) where
  goes:=fun i μ' H' hi st=>⟨vs,vs[i]'(by rw[←r.length]; exact hi),hs _ _ st,by simp⟩
  stops:=fun μ' H' st=>⟨vs,hs _ _ st,by rw[r.length]; exact Nat.le_refl _⟩
  yields:=fun i d μ' H' S x H2 e st rs y=>by
    obtain ⟨rfl,y⟩:=y
    obtain ⟨v,h1,h2⟩:=r.get e
    have q:=y vs (hs _ _ st)
    rw[h1] at q; cases q
    exact ⟨.rfl,Rep.stp st _ _ h2⟩
theorem RelS.ntup {S:Sto} (rs:RelS K mg μ H S) {q:Addr} {us:List V} (e:H q=some (.tup us)):q∉μ:=fun z=>by
  rcases z with z|z
  · obtain ⟨l,hl,e2⟩:=List.getElem_of_mem z
    have hl2:l<S.length:=by rw[rs.len]; exact hl
    obtain ⟨a',h1,h2⟩:=rs.at_ l _ (List.getElem?_eq_getElem hl2)
    rw[List.getElem?_eq_getElem hl,e2] at h1; cases h1
    generalize S[l]=o at h2
    cases o with
    | lst ds=>obtain ⟨vs,h1,h2⟩:=h2; rw[e] at h1; cases h1
    | any=>obtain ⟨u,q,t⟩:=h2; rw[e] at q; cases q; rcases t with ⟨_,t⟩|⟨_,t⟩|⟨_,t⟩<;>cases t
    | dct t kvs=>cases t<;>(obtain ⟨vs,ks,⟨q,k⟩,h2⟩:=h2; rw[e] at q; cases q)
    | ins C fs=>obtain ⟨Ca,dx,vs,g,h1,h2⟩:=h2; rw[e] at h1; cases h1
    | fdc t kvs=>cases t<;>(obtain ⟨vs,ks,⟨⟨od,q⟩,k⟩,h2⟩:=h2; rw[e] at q; cases q)
  · obtain ⟨u,h1,h2⟩:=rs.hid q z
    rw[e] at h1; cases h1
    rcases h2 with ⟨_,h⟩|⟨_,h⟩|⟨_,h⟩<;>cases h
theorem rT (k:Key):Rep K mg μ H (dt k) (kV k):=by
  cases k with
  | inl i=>exact az i
  | inr x=>exact gI x
theorem om:∀ks:List Key,RepAll K mg μ H (ks.map dt) (ks.map kV)
  | []=>.nil
  | k::ks=>.cons (rT k) (om ks)
theorem uT {od:Obj} {ks:List Key} {us:List V} (h:H a=some (.frz od (.dK (ks.zip us)))) (hl:ks.length=us.length):dZ K mg μ H (ks.map dt) (Itk a od (ks.zip us)) where
  goes:=fun i μ' H' hi st=>⟨st.kf _ _ _ h,by simp at hi ⊢; omega⟩
  stops:=fun μ' H' st=>⟨st.kf _ _ _ h,by simp; omega⟩
  yields:=fun i d μ' H' S x H2 e st rs y=>by
    obtain ⟨rfl,k,v,h1,rfl⟩:=y
    have hk:ks[i]?=some k:=by
      have:=congrArg (Option.map (·.1)) h1
      rw[←List.getElem?_map,List.map_fst_zip (by omega)] at this
      simpa using this
    rw[List.getElem?_map,hk] at e
    cases e
    exact ⟨.rfl,rT k⟩
theorem rU {od:Obj} {ks:List (List Key)} {us:List V} (h:H a=some (.frz od (.dT (ks.zip us)))) (hl:ks.length=us.length):dZ K mg μ H (ks.map gH) (Itkt a od (ks.zip us)) where
  goes:=fun i μ' H' hi st=>⟨st.kf _ _ _ h,by simp at hi ⊢; omega⟩
  stops:=fun μ' H' st=>⟨st.kf _ _ _ h,by simp; omega⟩
  yields:=fun i d μ' H' S x H2 e st rs y=>by
    obtain ⟨rfl,k,v,q,h1,rfl,h2⟩:=y
    have hk:ks[i]?=some k:=by
      have:=congrArg (Option.map (·.1)) h1
      rw[←List.getElem?_map,List.map_fst_zip (by omega)] at this
      simpa using this
    rw[List.getElem?_map,hk] at e
    cases e
    refine ⟨.rfl,?_⟩
    unfold gH Rep
    exact ⟨q,_,rfl,h2,rs.ntup h2,om k⟩
theorem rV {κ:Type} {g:κ→D} {kvs:List (D × D)} {ks:List κ} {us:List V} (e:kvs.map (·.1)=ks.map g) (r:RepAll K mg μ H (kvs.map (·.2)) us):ks.length=us.length:=by
  have h1:=congrArg List.length e
  have h2:=r.length
  simp at h1 h2
  omega
theorem wZ (z:Str):dZ K mg μ H (iS z) (Its z) where
  goes:=fun i μ' H' hi st=>by
    have:(iS z).length=z.cps.size:=by simp[iS]
    show i<z.cps.size
    omega
  stops:=fun μ' H' st=>by
    show z.cps.size≤(iS z).length
    simp[iS]
  yields:=fun i d μ' H' S x H2 e st rs y=>by
    obtain ⟨rfl,c,hc,rfl⟩:=y
    refine ⟨.rfl,?_⟩
    unfold iS at e
    rw[List.getElem?_map] at e
    have:z.cps.toList[i]?=some c:=by simpa using hc
    rw[this] at e
    cases e
    exact gI _
end
section
variable {X:Cx} {W:WX} {tg e:Expr} {m:ME}
theorem qH {pins:List (Addr × Obj)} {s1:Shared} {σ:L2.St} {H1:Hp} {R:It→Hp→Prop} {E:Value→Shared→Prop} {a:Addr} {xs:List V} (I1:L2.Inv X pins σ H1 s1) (hq:L2.SqL X.K H1 a xs) (q:R (Itl X.K a) H1) :
    wpAny (model X.prog X.w) X.A (pyIter (.ref a)) (PIE X pins σ tg R) E s1:=by
  obtain ⟨its,rv,p,hz⟩:=I1.list hq
  refine wpAny_pyIter_list p.isList ?_
  refine ⟨s1.heap.objs.size,[s1.heap.objs.size],_,_,H1,rfl,I1.kept (t':=s1.toks) fun b o e=>Heap.get?_push_of_some _ e,turn_list a _,⟨_,Heap.get?_push_size _ rfl,rfl,rfl⟩,fun b hb=>?_,q⟩
  have e:b=s1.heap.objs.size:=by simpa using hb
  subst e
  exact I1.fpOk (Nat.le_refl _) (I1.hok.fresh (Nat.le_refl _))
theorem it_tup {pins:List (Addr × Obj)} {s1:Shared} {σ:L2.St} {H1:Hp} {R:It→Hp→Prop} {E:Value→Shared→Prop} {a:Addr} {xs:List V} (I1:L2.Inv X pins σ H1 s1) (hq:L2.SqT X.K H1 a xs) (q:R (Itt X.K a) H1) :
    wpAny (model X.prog X.w) X.A (pyIter (.ref a)) (PIE X pins σ tg R) E s1:=by
  obtain ⟨its,rv,p,hz⟩:=I1.tuple hq
  refine wpAny_pyIter_tuple (show s1.heap.IsTuple a its.toArray from p) ?_
  refine ⟨s1.heap.objs.size,[s1.heap.objs.size],_,_,H1,rfl,I1.kept (t':=s1.toks) fun b o e=>Heap.get?_push_of_some _ e,turn_tuple a _,⟨_,Heap.get?_push_size _ rfl,rfl,rfl⟩,fun b hb=>?_,q⟩
  have e:b=s1.heap.objs.size:=by simpa using hb
  subst e
  exact I1.fpOk (Nat.le_refl _) (I1.hok.fresh (Nat.le_refl _))
theorem zh {pins:List (Addr × Obj)} {s1:Shared} {σ:L2.St} {H1:Hp} {R:It→Hp→Prop} {E:Value→Shared→Prop} {d:Addr} {o:Obj} {kvs:List (Key × V)} (I1:L2.Inv X pins σ H1 s1) (hd:H1 d=some (.frz o (.dK kvs))) (q:R (Itk d o kvs) H1) :
    wpAny (model X.prog X.w) X.A (pyIter (.ref d)) (PIE X pins σ tg R) E s1:=by
  obtain ⟨hs,hgd,hx,es,ep,vs,hdt,hsz,kv,hm⟩:=I1.frzK hd
  refine iter_keys hs hgd hx hdt (pi_one (tk:=s1.toks) I1 _ (turn_keys _ hdt) ⟨_,Heap.get?_push_size _ rfl,rfl,?_⟩ q)
  rw[hsz]<;>rfl
theorem xl {pins:List (Addr × Obj)} {s1:Shared} {σ:L2.St} {H1:Hp} {R:It→Hp→Prop} {E:Value→Shared→Prop} {d:Addr} {o:Obj} {kvs:List (List Key × V)} (I1:L2.Inv X pins σ H1 s1) (hd:H1 d=some (.frz o (.dT kvs))) (q:R (Itkt d o kvs) H1) :
    wpAny (model X.prog X.w) X.A (pyIter (.ref d)) (PIE X pins σ tg R) E s1:=by
  obtain ⟨hs,hgd,hx,es,ep,hdt,hsz,ent⟩:=I1.frzT hd
  refine iter_keys hs hgd hx hdt (pi_one (tk:=s1.toks) I1 _ (turn_keysT _ hdt) ⟨_,Heap.get?_push_size _ rfl,rfl,?_⟩ q)
  rw[hsz]<;>rfl
/-- a text's value walked -/
theorem it_str {pins:List (Addr × Obj)} {s1:Shared} {σ:L2.St} {H1:Hp} {R:It→Hp→Prop} {z:Str} {v:Value} (I1:L2.Inv X pins σ H1 s1) (r:RelV (.str z) v) (q:R (Its z) H1) :
    wpAny (model X.prog X.w) X.A (pyIter v) (PIE X pins σ tg R) X.xe s1:=by
  obtain ⟨t,rfl⟩:=r
  cases ha:z.cps.all (·<128)
  · exact wpAny_pyIter_wide ha (pi_one (tk:=s1.toks) I1 _ (turn_str _ z t "str_iterator" (.inr rfl)) ⟨_,Heap.get?_push_size _ rfl,rfl,rfl⟩ q)
  · exact wpAny_pyIter_ascii ha (pi_one (tk:=s1.toks) I1 _ (turn_str _ z t "str_ascii_iterator" (.inl rfl)) ⟨_,Heap.get?_push_size _ rfl,rfl,rfl⟩ q)
theorem lV {d e:D} (h:vt d=e) (n:∀xs,e≠.tup xs):d=e:=by
  cases d with
  | tpn xs=>exact absurd h.symm (n xs)
  | _=>exact h
theorem aw (h:PE X e (tE X W m)):PI X tg e (tI X W (cM m)):=⟨fun pins s σ H R I ⟨env,S,μ,rl,o⟩=>by
  refine thn (h.run pins s σ H _ I ⟨env,S,μ,rl,Out.bind o⟩) fun v s1 ⟨x,H1,I1,r1,μ1,S1,d,st,rs,rd,o1⟩=>?_
  have rw0:=rd.wv.vt
  unfold bO at o1
  split at o1
  · rename_i ev
    rw[ev] at rw0
    obtain ⟨a,vs,rfl,h1,h2,n⟩:=rw0
    cases r1
    exact it_tup I1 (.inl h1) (o1 _ _ _ .refl rs (wY h1 n h2))
  · rename_i ev
    rw[lV ev nofun] at rd
    unfold Rep at rd
    obtain ⟨a,vs,rfl,h1,n,h2⟩:=rd
    cases r1
    exact qH I1 (.of h1) (o1 _ _ _ .refl rs (oj (.of h1) (fun _ _ st=>.of (st.keep _ _ h1 n)) h2))
  · rename_i ev
    rw[lV ev nofun] at rd
    unfold Rep at rd
    obtain ⟨a,vs,rfl,h1,h2⟩:=rd
    cases r1
    exact qH I1 h1.sq (o1 _ _ _ .refl rs (oj h1.sq (fun _ _ st=>(h1.stp st).sq) h2))
  · rename_i ev
    rw[lV ev nofun] at rd
    unfold Rep at rd
    subst rd
    exact it_str I1 r1 (o1 _ _ _ .refl rs (wZ _))
  · rename_i ev
    rw[lV ev nofun] at rd
    unfold Rep at rd
    obtain ⟨a,rfl,hμ⟩:=rd
    cases r1
    split at o1
    · rename_i xs es
      obtain ⟨a',h1,vs,h2,h3⟩:=rs.at_ _ _ es
      rw[hμ] at h1; cases h1
      exact qH I1 (.of h2) (o1 _ _ _ .refl rs ⟨_,hμ,rfl⟩)
    · rename_i t kvs es
      obtain ⟨a',h1,h2⟩:=rs.at_ _ _ es
      rw[hμ] at h1; cases h1
      cases t with
      | false=>
        obtain ⟨vs,ks,⟨⟨od,q⟩,hk⟩,rr⟩:=h2
        rw[hk] at o1
        exact zh I1 q (o1 _ _ _ .refl rs (uT q (rV hk rr)))
      | true=>
        obtain ⟨vs,ks,⟨⟨od,q⟩,hk⟩,rr⟩:=h2
        rw[hk] at o1
        exact xl I1 q (o1 _ _ _ .refl rs (rU q (rV hk rr)))
    · exact o1.elim
  · exact o1.elim⟩
def kY (lo:Int) (n:Nat):List D:=(List.range n).map fun i=>.int (lo+(i:Nat))
theorem oo {K:PySem.W.Frag} {mg:Str→Option Value} {μ:Mu} {H:Hp} (lo:Int) (n:Nat):dZ K mg μ H (kY lo n) (Itr lo n) where
  goes:=fun i μ' H' hi st=>by
    have:(kY lo n).length=n:=by simp[kY]
    show i<n
    omega
  stops:=fun μ' H' st=>by
    show n≤(kY lo n).length
    simp[kY]
  yields:=fun i d μ' H' S x H2 e st rs y=>by
    obtain ⟨rfl,rfl⟩:=y
    refine ⟨.rfl,?_⟩
    unfold kY at e
    rw[List.getElem?_map] at e
    obtain ⟨j,hj,hd⟩:=Option.map_eq_some_iff.mp e
    have:j=i:=by
      have q:=List.getElem?_eq_some_iff.mp hj
      obtain ⟨h1,h2⟩:=q
      rw[List.getElem_range] at h2
      exact h2.symm
    subst this
    subst hd
    exact az _
/-- of at most 63 bits; no kernel is to reckon it -/
noncomputable def bU (i:Int):Bool:=@decide (-(2 ^ 62)≤i∧i<2 ^ 62) (Classical.propDecidable _)
theorem smallI_iff {i:Int}:bU i=true ↔ -(2 ^ 62)≤i∧i<2 ^ 62:=by
  unfold bU
  exact @decide_eq_true_iff _ (Classical.propDecidable _)
noncomputable def jR (r:MA):MI:=fun env S=>(r env S).bind fun ds S=>match ds with
  | [.int j]=>if bU j then .ok (.items (kY 0 j.toNat)) S else .stuck
  | _=>.stuck
noncomputable def kZ (r:MA):MI:=fun env S=>(r env S).bind fun ds S=>match ds with
  | [.int i,.int j]=>if bU i&&bU j then .ok (.items (kY i (j - i).toNat)) S else .stuck
  | _=>.stuck
variable {a b:Expr} {p pos:Pos} {r:MA}
theorem b4 {K:PySem.W.Frag} {mg:Str→Option Value} {μ:Mu} {H:Hp} {a:D} {vs:List V} (h:RepAll K mg μ H [a] vs):∃v,vs=[v]∧Rep K mg μ H a v:=by
  unfold RepAll at h
  obtain ⟨v,q,rfl,r1,r2⟩:=h
  unfold RepAll at r2
  subst r2
  exact ⟨v,rfl,r1⟩
theorem gM {K:PySem.W.Frag} {mg:Str→Option Value} {μ:Mu} {H:Hp} {a b:D} {vs:List V} (h:RepAll K mg μ H [a,b] vs):∃v w,vs=[v,w]∧Rep K mg μ H a v∧Rep K mg μ H b w:=by
  unfold RepAll at h
  obtain ⟨v,q,rfl,r1,r2⟩:=h
  obtain ⟨w,rfl,r3⟩:=b4 r2
  exact ⟨v,w,rfl,r1,r3⟩
theorem mC (hg:Gl X "range") (hm:X.mg "range"=none) (ha:PA X [a] (tAs X W r)) (hs:starEach [a] X.env=[(false,eval a X.env)]:=by rfl):PI X tg (.Call (.Name "range" p) [a] [] pos) (tI X W (jR r)):=
  xk (pi_range1 hg hm ha hs) fun σ H R ⟨env,S,μ,rl,o⟩=>⟨env,S,μ,rl,(Out.bind o).mono fun vs H1 ⟨μ1,S1,ds,st,rs,rd,o1⟩=>by
    split at o1
    · rename_i j
      obtain ⟨v,rfl,r1⟩:=b4 rd
      unfold Rep at r1
      subst r1
      split at o1
      · rename_i hj
        rw[smallI_iff] at hj
        exact ⟨j,rfl,hj.1,hj.2,o1 _ _ _ .refl rs (oo 0 _)⟩
      · exact o1.elim
    · exact o1.elim⟩
theorem qI (hg:Gl X "range") (hm:X.mg "range"=none) (ha:PA X [a,b] (tAs X W r)) (hs:starEach [a,b] X.env=[(false,eval a X.env),(false,eval b X.env)]:=by rfl) (hs2:starEach [b] X.env=[(false,eval b X.env)]:=by rfl):PI X tg (.Call (.Name "range" p) [a,b] [] pos) (tI X W (kZ r)):=
  xk (pi_range2 hg hm ha hs hs2) fun σ H R ⟨env,S,μ,rl,o⟩=>⟨env,S,μ,rl,(Out.bind o).mono fun vs H1 ⟨μ1,S1,ds,st,rs,rd,o1⟩=>by
    split at o1
    · rename_i i j
      obtain ⟨v,w,rfl,r1,r2⟩:=gM rd
      unfold Rep at r1 r2
      subst r1 r2
      split at o1
      · rename_i hj
        rw[Bool.and_eq_true,smallI_iff,smallI_iff] at hj
        exact ⟨i,j,rfl,⟨hj.1.1,hj.1.2,hj.2.1,hj.2.2⟩,o1 _ _ _ .refl rs (oo i _)⟩
      · exact o1.elim
    · exact o1.elim⟩
def dz (n:Nat):List D→List D
  | []=>[]
  | d::ds=>.tup [.int (n:Nat),d]::dz (n+1) ds
theorem ka:∀(ds:List D) (n i:Nat) (d:D),(dz n ds)[i]?=some d→∃e,ds[i]?=some e∧d=.tup [.int ((n+i:Nat):Int),e]
  | [],n,i,d,h=>by simp[dz] at h
  | a::ds,n,0,d,h=>by
    simp[dz] at h
    exact ⟨a,rfl,h.symm⟩
  | a::ds,n,i+1,d,h=>by
    have h:(dz (n+1) ds)[i]?=some d:=by simpa [dz] using h
    obtain ⟨e,h1,h2⟩:=ka ds (n+1) i d h
    exact ⟨e,by simpa using h1,by rw[h2]; congr 3; omega⟩
theorem de:∀(ds:List D) (n:Nat),(dz n ds).length=ds.length
  | [],_=>rfl
  | a::ds,n=>by simp[dz,de ds]
theorem rW {K:PySem.W.Frag} {mg:Str→Option Value} {μ:Mu} {H:Hp} {a:Addr} {xs:List D} {vs:List V} (h:Rd H a (.tup vs)) (n:a∉μ) (r:RepAll K mg μ H xs vs):dZ K mg μ H (dz 0 xs) (IteT a) where
  goes:=fun i μ' H' hi st=>⟨vs,vs[i]'(by rw[de] at hi; rw[←r.length]; exact hi),(dO st h n).1,by simp⟩
  stops:=fun μ' H' st=>⟨vs,(dO st h n).1,by rw[de,r.length]⟩
  yields:=fun i d μ' H' S x H2 e st rs y=>by
    obtain ⟨T,w,rfl,hT,rfl,y⟩:=y
    obtain ⟨d',h1,h2⟩:=ka _ _ _ _ e
    obtain ⟨v,h3,h4⟩:=r.get h1
    have q:=y vs ((dO st h n).1)
    rw[h3] at q; cases q
    subst h2
    exact ⟨.upd hT,bQ rs hT (.cons (by rw[Nat.zero_add]; exact az _) (.cons (Rep.stp st _ _ h4) .nil))⟩
theorem rX {K:PySem.W.Frag} {mg:Str→Option Value} {μ:Mu} {H:Hp} {a:Addr} {xs:List D} {vs:List V} (h:L2.SqL K H a vs) (hs:∀μ' H',Stp μ H μ' H'→L2.SqL K H' a vs) (r:RepAll K mg μ H xs vs):dZ K mg μ H (dz 0 xs) (Ite K a) where
  goes:=fun i μ' H' hi st=>⟨vs,vs[i]'(by rw[de] at hi; rw[←r.length]; exact hi),hs _ _ st,by simp⟩
  stops:=fun μ' H' st=>⟨vs,hs _ _ st,by rw[de,r.length]; exact Nat.le_refl _⟩
  yields:=fun i d μ' H' S x H2 e st rs y=>by
    obtain ⟨T,w,rfl,hT,rfl,y⟩:=y
    obtain ⟨d',h1,h2⟩:=ka _ _ _ _ e
    obtain ⟨v,h3,h4⟩:=r.get h1
    have q:=y vs (hs _ _ st)
    rw[h3] at q; cases q
    subst h2
    exact ⟨.upd hT,bQ rs hT (.cons (by rw[Nat.zero_add]; exact az _) (.cons (Rep.stp st _ _ h4) .nil))⟩
def me (r:MA):MI:=fun env S=>(r env S).bind fun ds S=>match ds.map vt with
  | [.tup xs]=>.ok (.items (dz 0 xs)) S
  | [.lst xs]=>.ok (.items (dz 0 xs)) S
  | [.loc l]=>match S[l]? with
    | some (.lst _)=>.ok (.liveE l) S
    | _=>.stuck
  | _=>.stuck
theorem kc {K:PySem.W.Frag} {mg:Str→Option Value} {μ:Mu} {H:Hp} {d0:D} {ds:List D} {vs:List V} (r:RepAll K mg μ H ds vs) (e:ds.map vt=[d0]):∃d v,ds=[d]∧vt d=d0∧vs=[v]∧Rep K mg μ H d v:=by
  match ds,e with
  | [d],e=>
    obtain ⟨v,rfl,r1⟩:=b4 r
    exact ⟨d,v,rfl,by simpa using e,rfl,r1⟩
theorem mj {K:PySem.W.Frag} {mg:Str→Option Value} {μ:Mu} {H:Hp} {d0 d1:D} {ds:List D} {vs:List V} (r:RepAll K mg μ H ds vs) (e:ds.map vt=[d0,d1]):∃d d' v w,ds=[d,d']∧(vt d=d0∧vt d'=d1)∧vs=[v,w]∧Rep K mg μ H d v∧Rep K mg μ H d' w:=by
  match ds,e with
  | [d,d'],e=>
    obtain ⟨v,w,rfl,r1,r2⟩:=gM r
    exact ⟨d,d',v,w,rfl,by simpa using e,rfl,r1,r2⟩
theorem vn {tpos:Pos} {elts:List Expr} {kk:Nat} (hg:Gl X "enumerate") (hm:X.mg "enumerate"=none) (ha:PA X [e] (tAs X W r)) (hs:starEach [e] X.env=[(false,eval e X.env)]:=by rfl) :
    PI X (.Tuple elts kk tpos) (.Call (.Name "enumerate" p) [e] [] pos) (tI X W (me r)):=by
  refine ⟨fun pins s σ H R I ⟨env,S,μ,rl,o⟩=>?_⟩
  refine Call_ (ld_blt I hg hm boot_enumerate (PyProof.Rows.callWith_type1 (thn (ha.run pos pins s σ H _ I ⟨env,S,μ,rl,Out.bind o⟩) fun us s1 ⟨vs,H1,I1,r1,μ1,S1,ds,st,rs,rd,o1⟩=>?_) hs rfl))
  have fresh2:∀b∈[s1.heap.objs.size+1,s1.heap.objs.size],FpOk X pins H1 b:=fun b hb=>by
    have e':b=s1.heap.objs.size+1∨b=s1.heap.objs.size:=by simpa using hb
    have hle:s1.heap.objs.size≤b:=by
      rcases e' with z|z
      · rw[z]; exact Nat.le_add_right _ _
      · rw[z]; exact Nat.le_refl _
    exact I1.fpOk hle (I1.hok.fresh hle)
  split at o1
  · rename_i xs ev
    obtain ⟨d,v,rfl,ed,rfl,r2⟩:=kc rd ev
    have r2:=r2.wv.vt
    rw[ed] at r2
    obtain ⟨a,ws,rfl,h1,h2,n⟩:=r2
    cases r1 with
    | cons ra rr=>
      cases rr
      cases ra
      obtain ⟨its,rv,p',hz⟩:=I1.tuple (.inl h1)
      refine PySem.dl_enum_begins (PySem.begins_tuple a its.toArray) (show s1.heap.IsTuple a its.toArray from p') fun h' he ho hsz hk=>wpAny_pyIter_enum he ?_
      have I2:L2.Inv X pins σ H1 { s1 with heap:=h' }:=I1.kept (t':=s1.toks) hk
      exact ⟨s1.heap.objs.size+1,[s1.heap.objs.size+1,s1.heap.objs.size],_,_,H1,rfl,I2,uS a (s1.heap.objs.size+1) s1.heap.objs.size,⟨⟨.none,he⟩,⟨_,ho,rfl,rfl⟩,Nat.succ_ne_self _⟩,fresh2,o1 _ _ _ .refl rs (rW h1 n h2)⟩
  · rename_i xs ev
    obtain ⟨d,v,rfl,ed,rfl,r2⟩:=kc rd ev
    rw[lV ed nofun] at r2
    unfold Rep at r2
    obtain ⟨a,ws,rfl,h1,n,h2⟩:=r2
    cases r1 with
    | cons ra rr=>
      cases rr
      cases ra
      obtain ⟨its,rv,p',hz⟩:=I1.list (.of h1)
      refine call_enumerate_list p'.isList fun h' he hit hsz hk=>wpAny_pyIter_enum he ?_
      have I2:L2.Inv X pins σ H1 { s1 with heap:=h' }:=I1.kept (t':=s1.toks) hk
      exact ⟨s1.heap.objs.size+1,[s1.heap.objs.size+1,s1.heap.objs.size],_,_,H1,rfl,I2,turn_enum a (s1.heap.objs.size+1) s1.heap.objs.size,⟨⟨.none,he⟩,hit,Nat.succ_ne_self _⟩,fresh2,o1 _ _ _ .refl rs (rX (.of h1) (fun _ _ st=>.of (st.keep _ _ h1 n)) h2)⟩
  · rename_i l ev
    obtain ⟨d,v,rfl,ed,rfl,r2⟩:=kc rd ev
    rw[lV ed nofun] at r2
    unfold Rep at r2
    obtain ⟨a,rfl,ha⟩:=r2
    split at o1
    · rename_i xs es
      obtain ⟨a',g1,ws,h1,h2⟩:=rs.at_ _ _ es
      rw[ha] at g1; cases g1
      cases r1 with
      | cons ra rr=>
        cases rr
        cases ra
        obtain ⟨its,rv,p',hz⟩:=I1.list (.of h1)
        refine call_enumerate_list p'.isList fun h' he hit hsz hk=>wpAny_pyIter_enum he ?_
        have I2:L2.Inv X pins σ H1 { s1 with heap:=h' }:=I1.kept (t':=s1.toks) hk
        exact ⟨s1.heap.objs.size+1,[s1.heap.objs.size+1,s1.heap.objs.size],_,_,H1,rfl,I2,turn_enum a (s1.heap.objs.size+1) s1.heap.objs.size,⟨⟨.none,he⟩,hit,Nat.succ_ne_self _⟩,fresh2,o1 _ _ _ .refl rs ⟨a,ha,rfl⟩⟩
    · exact o1.elim
  · exact o1.elim
def fG:List D→List D→List D
  | a::as,b::bs=>.tup [a,b]::fG as bs
  | _,_=>[]
theorem mm:∀(as bs:List D) (i:Nat) (d:D),(fG as bs)[i]?=some d→∃a b,as[i]?=some a∧bs[i]?=some b∧d=.tup [a,b]
  | [],_,i,d,h=>by simp[fG] at h
  | a::as,[],i,d,h=>by simp[fG] at h
  | a::as,b::bs,0,d,h=>by
    simp[fG] at h
    exact ⟨a,b,rfl,rfl,h.symm⟩
  | a::as,b::bs,i+1,d,h=>by
    have h:(fG as bs)[i]?=some d:=by simpa [fG] using h
    obtain ⟨x,y,h1,h2,h3⟩:=mm as bs i d h
    exact ⟨x,y,by simpa using h1,by simpa using h2,h3⟩
theorem eY:∀(as bs:List D),(fG as bs).length=min as.length bs.length
  | [],_=>by simp[fG]
  | a::as,[]=>by simp[fG]
  | a::as,b::bs=>by simp[fG,eY as bs]
theorem uU {K:PySem.W.Frag} {mg:Str→Option Value} {μ:Mu} {H:Hp} {a b:Addr} {xs ys:List D} {vs ws:List V} (h:Rd H a (.tup vs)) (n:a∉μ) (r:RepAll K mg μ H xs vs) (h':Rd H b (.tup ws)) (n':b∉μ) (r':RepAll K mg μ H ys ws) :
    dZ K mg μ H (fG xs ys) (RZ.ItzT K a b) where
  goes:=fun i μ' H' hi st=>by
    rw[eY] at hi
    have h1:i<vs.length:=by rw[←r.length]; omega
    have h2:i<ws.length:=by rw[←r'.length]; omega
    exact ⟨vs,ws,vs[i],ws[i],.inl (dO st h n).1,.inl (dO st h' n').1,by simp,by simp⟩
  stops:=fun μ' H' st=>⟨vs,ws,.inl (dO st h n).1,.inl (dO st h' n').1,by rw[eY,←r.length,←r'.length]; omega⟩
  yields:=fun i d μ' H' S x H2 e st rs y=>by
    obtain ⟨T,w1,w2,rfl,hT,rfl,y1,y2⟩:=y
    obtain ⟨da,db,e1,e2,rfl⟩:=mm _ _ _ _ e
    obtain ⟨u1,g1,k1⟩:=r.get e1
    obtain ⟨u2,g2,k2⟩:=r'.get e2
    have q1:=y1 vs (.inl (dO st h n).1)
    have q2:=y2 ws (.inl (dO st h' n').1)
    rw[g1] at q1; cases q1
    rw[g2] at q2; cases q2
    exact ⟨.upd hT,bQ rs hT (.cons (Rep.stp st _ _ k1) (.cons (Rep.stp st _ _ k2) .nil))⟩
theorem uV {K:PySem.W.Frag} {mg:Str→Option Value} {μ:Mu} {H:Hp} {a b:Addr} {xs ys:List D} {vs ws:List V} (h:H a=some (.lst vs)) (n:a∉μ) (r:RepAll K mg μ H xs vs) (h':H b=some (.lst ws)) (n':b∉μ) (r':RepAll K mg μ H ys ws) :
    dZ K mg μ H (fG xs ys) (Itz K a b) where
  goes:=fun i μ' H' hi st=>by
    rw[eY] at hi
    have h1:i<vs.length:=by rw[←r.length]; omega
    have h2:i<ws.length:=by rw[←r'.length]; omega
    exact ⟨vs,ws,vs[i],ws[i],.of (st.keep _ _ h n),.of (st.keep _ _ h' n'),by simp,by simp⟩
  stops:=fun μ' H' st=>⟨vs,ws,.of (st.keep _ _ h n),.of (st.keep _ _ h' n'),by rw[eY,←r.length,←r'.length]; omega⟩
  yields:=fun i d μ' H' S x H2 e st rs y=>by
    obtain ⟨T,w1,w2,rfl,hT,rfl,y1,y2⟩:=y
    obtain ⟨da,db,e1,e2,rfl⟩:=mm _ _ _ _ e
    obtain ⟨u1,g1,k1⟩:=r.get e1
    obtain ⟨u2,g2,k2⟩:=r'.get e2
    have q1:=y1 vs (.of (st.keep _ _ h n))
    have q2:=y2 ws (.of (st.keep _ _ h' n'))
    rw[g1] at q1; cases q1
    rw[g2] at q2; cases q2
    exact ⟨.upd hT,bQ rs hT (.cons (Rep.stp st _ _ k1) (.cons (Rep.stp st _ _ k2) .nil))⟩
def vo (r:MA):MI:=fun env S=>(r env S).bind fun ds S=>match ds.map vt with
  | [.tup xs,.tup ys]=>.ok (.items (fG xs ys)) S
  | [.lst xs,.lst ys]=>.ok (.items (fG xs ys)) S
  | _=>.stuck
theorem pI_zip {tpos:Pos} {elts:List Expr} {kk:Nat} {e2:Expr} (hg:Gl X "zip") (hm:X.mg "zip"=none) (ha:PA X [e,e2] (tAs X W r))
    (hs:starEach [e,e2] X.env=(false,eval e X.env)::starEach [e2] X.env:=by rfl) (hpl:(backTo pos (starEach [e2] X.env)).any (·.1)=false:=by rfl) :
    PI X (.Tuple elts kk tpos) (.Call (.Name "zip" p) [e,e2] [] pos) (tI X W (vo r)):=
  xk (RZ.pi_zipA hg hm ha hs hpl) fun σ H R ⟨env,S,μ,rl,o⟩=>⟨env,S,μ,rl,(Out.bind o).mono fun vs H1 ⟨μ1,S1,ds,st,rs,rd,o1⟩=>by
    split at o1
    · rename_i ev
      obtain ⟨d,d',v,w,rfl,⟨e1,e2⟩,rfl,r1,r2⟩:=mj rd ev
      have r1:=r1.wv.vt
      have r2:=r2.wv.vt
      rw[e1] at r1
      rw[e2] at r2
      obtain ⟨a,va,rfl,h1,l1,n1⟩:=r1
      obtain ⟨b,vb,rfl,h2,l2,n2⟩:=r2
      exact ⟨a,b,va,vb,rfl,.inr ⟨.inl h1,.inl h2,o1 _ _ _ .refl rs (uU h1 n1 l1 h2 n2 l2)⟩⟩
    · rename_i ev
      obtain ⟨d,d',v,w,rfl,⟨e1,e2⟩,rfl,r1,r2⟩:=mj rd ev
      rw[lV e1 nofun] at r1
      rw[lV e2 nofun] at r2
      unfold Rep at r1 r2
      obtain ⟨a,va,rfl,h1,n1,l1⟩:=r1
      obtain ⟨b,vb,rfl,h2,n2,l2⟩:=r2
      exact ⟨a,b,va,vb,rfl,.inl ⟨.of h1,.of h2,o1 _ _ _ .refl rs (uV h1 n1 l1 h2 n2 l2)⟩⟩
    · exact o1.elim⟩
def iT (g:MG) (b:MS):List D→MS
  | []=>fun env S=>.next env S
  | d::ds=>fun env S=>match g d env S with
    | none=>.stuck
    | some p=>match b p.1 p.2 with
      | .next env S=>iT g b ds env S
      | .cont env S=>iT g b ds env S
      | .brk env S=>.next env S
      | .ret d S=>.ret d S
      | .exc e env S=>.exc e env S
      | .stuck=>.stuck
def iE (g:MG) (b:MS) (l:Nat):Nat→Nat→MS
  | 0,_=>fun _ _=>.stuck
  | n+1,i=>fun env S=>match S[l]? with
    | some (.lst xs)=>match xs[i]? with
      | none=>.next env S
      | some d=>match g d env S with
        | none=>.stuck
        | some p=>match b p.1 p.2 with
          | .next env S=>iE g b l n (i+1) env S
          | .cont env S=>iE g b l n (i+1) env S
          | .brk env S=>.next env S
          | .ret d S=>.ret d S
          | .exc e env S=>.exc e env S
          | .stuck=>.stuck
    | _=>.stuck
/-- with the places,the first one 0 -/
def lW (g:MG) (b:MS) (l:Nat):Nat→Nat→MS
  | 0,_=>fun _ _=>.stuck
  | n+1,i=>fun env S=>match S[l]? with
    | some (.lst xs)=>match xs[i]? with
      | none=>.next env S
      | some d=>match g (.tup [.int (i:Nat),d]) env S with
        | none=>.stuck
        | some p=>match b p.1 p.2 with
          | .next env S=>lW g b l n (i+1) env S
          | .cont env S=>lW g b l n (i+1) env S
          | .brk env S=>.next env S
          | .ret d S=>.ret d S
          | .exc e env S=>.exc e env S
          | .stuck=>.stuck
    | _=>.stuck
def dB (S:Sto) (l:Nat):Nat:=match S[l]? with
  | some (.lst xs)=>xs.length
  | _=>0
def fR (mi:MI) (g:MG) (b:MS):MS:=fun env S=>(mi env S).rs env fun it S=>match it with
  | .items ds=>iT g b ds env S
  | .live l=>iE g b l (dB S l+1) 0 env S
  | .liveE l=>lW g b l (dB S l+1) 0 env S
theorem cN {iter:Expr} {body:List Stmt} {mi:MI} {g:MG} {b:MS} (hp:PassesOwn (model X.prog X.w) X.A X.env X.xe) (hc:X.calm=true) (hi:PI X tg iter (tI X W mi)) (hg:PG X tg (tG X g)) (hb:PSs X body (tS X W b))
    (hs:∀x,foldedSetIterable iter X.env x=pure x:=by intro _; rfl):PS X (.For tg iter body [] pos) (tS X W (fR mi g b)):=
  fZ (ps_for hp hc hi hg hb hs) fun D σ H ⟨env,S,μ,rl,o⟩=>⟨env,S,μ,rl,(OutS.rs rl.env o).mono fun J H1 ⟨μ1,S1,it,st,rs,rd,o1⟩=>by
    cases it with
    | items ds=>
      have rd:dZ X.K X.mg μ1 H1 ds J:=rd
      refine ⟨fun i n σ H=>n+i=ds.length∧∃env S μ,Step μ1 H1 μ H∧Rl X.K X.mg μ H env σ S∧OutS X.K X.mg W μ H D (iT g b (ds.drop i) env S),⟨ds.length,rfl,env,S1,μ1,.refl,⟨rl.env.step st,rs⟩,o1⟩,?_⟩
      rintro i n σ H ⟨hn,env,S,μ,st1,rl,o⟩
      by_cases hi:i<ds.length
      · have ed:ds.drop i=ds[i]::ds.drop (i+1):=List.drop_eq_getElem_cons hi
        rw[ed] at o
        unfold iT at o
        refine .inr ⟨rd.goes i μ H hi st1.toStp,fun σ H=>∃env S μ,Step μ1 H1 μ H∧Rl X.K X.mg μ H env σ S∧OutS X.K X.mg W μ H D (iT g b (ds.drop (i+1)) env S),fun σ' H' w=>⟨n - 1,by omega,by omega,w⟩,fun x H' y=>?_⟩
        obtain ⟨sm,rx⟩:=rd.yields i _ μ H S x H' (List.getElem?_eq_getElem hi) st1.toStp rl.sto y
        have stx:Step μ H μ H':=.of_sm sm
        refine ⟨env,S,μ,_,rl.sm sm,rx,?_⟩
        cases hg:g ds[i] env S with
        | none=>rw[hg] at o; exact o.elim
        | some p=>
          rw[hg] at o
          refine fun μ2 H2 σ2 st2 re2 rs2=>⟨p.1,p.2,μ2,⟨re2,rs2⟩,?_⟩
          have o:=OutS.of_step (stx.trans st2) o
          cases hb:b p.1 p.2 with
          | next e S=>simp only[hb] at o; exact fun μ' H' σ' s t u=>⟨e,S,μ',((st1.trans stx).trans st2).trans s,⟨t,u⟩,OutS.of_step s o⟩
          | cont e S=>simp only[hb] at o; exact fun μ' H' σ' s t u=>⟨e,S,μ',((st1.trans stx).trans st2).trans s,⟨t,u⟩,OutS.of_step s o⟩
          | brk e S=>simp only[hb] at o; exact o
          | ret d S=>simp only[hb] at o; exact o
          | exc e v S=>simp only[hb] at o; exact o
          | stuck=>simp only[hb] at o; exact o
      · have e:i=ds.length:=by omega
        subst e
        rw[List.drop_length] at o
        exact .inl ⟨rd.stops μ H st1.toStp,o μ H σ .refl rl.env rl.sto⟩
    | live l=>
      obtain ⟨a,ha,rfl⟩:=rd
      refine ⟨fun i n σ H=>∃env S μ,Step μ1 H1 μ H∧Rl X.K X.mg μ H env σ S∧OutS X.K X.mg W μ H D (iE g b l n i env S),⟨_,env,S1,μ1,.refl,⟨rl.env.step st,rs⟩,o1⟩,?_⟩
      rintro i n σ H ⟨env,S,μ,st1,rl,o⟩
      cases n with
      | zero=>exact o.elim
      | succ n=>
        unfold iE at o
        split at o
        · rename_i xs es
          obtain ⟨a',h1,vs,h2,h3⟩:=rl.sto.at_ _ _ es
          rw[st1.get ha] at h1; cases h1
          split at o
          · rename_i hx
            refine .inl ⟨⟨vs,.of h2,?_⟩,o μ H σ .refl rl.env rl.sto⟩
            rw[←h3.length]
            exact List.getElem?_eq_none_iff.mp hx
          · rename_i d hx
            obtain ⟨v,hv,rv⟩:=h3.get hx
            refine .inr ⟨⟨vs,v,.of h2,hv⟩,fun σ H=>∃env S μ,Step μ1 H1 μ H∧Rl X.K X.mg μ H env σ S∧OutS X.K X.mg W μ H D (iE g b l n (i+1) env S),fun σ' H' w=>⟨n,Nat.lt_succ_self n,w⟩,fun x H' y=>?_⟩
            obtain ⟨rfl,y⟩:=y
            have q:=y vs (.of h2)
            rw[hv] at q; cases q
            refine ⟨env,S,μ,_,rl,rv,?_⟩
            cases hg:g d env S with
            | none=>rw[hg] at o; exact o.elim
            | some p=>
              rw[hg] at o
              refine fun μ2 H2 σ2 st2 re2 rs2=>⟨p.1,p.2,μ2,⟨re2,rs2⟩,?_⟩
              have o:=OutS.of_step st2 o
              cases hb:b p.1 p.2 with
              | next e S=>simp only[hb] at o; exact fun μ' H' σ' s t u=>⟨e,S,μ',(st1.trans st2).trans s,⟨t,u⟩,OutS.of_step s o⟩
              | cont e S=>simp only[hb] at o; exact fun μ' H' σ' s t u=>⟨e,S,μ',(st1.trans st2).trans s,⟨t,u⟩,OutS.of_step s o⟩
              | brk e S=>simp only[hb] at o; exact o
              | ret d S=>simp only[hb] at o; exact o
              | exc e v S=>simp only[hb] at o; exact o
              | stuck=>simp only[hb] at o; exact o
        · exact o.elim
    | liveE l=>
      obtain ⟨a,ha,rfl⟩:=rd
      refine ⟨fun i n σ H=>∃env S μ,Step μ1 H1 μ H∧Rl X.K X.mg μ H env σ S∧OutS X.K X.mg W μ H D (lW g b l n i env S),⟨_,env,S1,μ1,.refl,⟨rl.env.step st,rs⟩,o1⟩,?_⟩
      rintro i n σ H ⟨env,S,μ,st1,rl,o⟩
      cases n with
      | zero=>exact o.elim
      | succ n=>
        unfold lW at o
        split at o
        · rename_i xs es
          obtain ⟨a',h1,vs,h2,h3⟩:=rl.sto.at_ _ _ es
          rw[st1.get ha] at h1; cases h1
          split at o
          · rename_i hx
            refine .inl ⟨⟨vs,.of h2,?_⟩,o μ H σ .refl rl.env rl.sto⟩
            rw[←h3.length]
            exact List.getElem?_eq_none_iff.mp hx
          · rename_i d hx
            obtain ⟨v,hv,rv⟩:=h3.get hx
            refine .inr ⟨⟨vs,v,.of h2,hv⟩,fun σ H=>∃env S μ,Step μ1 H1 μ H∧Rl X.K X.mg μ H env σ S∧OutS X.K X.mg W μ H D (lW g b l n (i+1) env S),fun σ' H' w=>⟨n,Nat.lt_succ_self n,w⟩,fun x H' y=>?_⟩
            obtain ⟨T,w,rfl,hT,rfl,y⟩:=y
            have q:=y vs (.of h2)
            rw[hv] at q; cases q
            have sm:Sm H (upd H T (.tup [.int (i:Int),v])):=.upd hT
            have stx:Step μ H μ (upd H T (.tup [.int (i:Int),v])):=.of_sm sm
            have rx:Rep X.K X.mg μ (upd H T (.tup [.int (i:Int),v])) (.tup [.int (i:Nat),d]) (.ref T):=bQ rl.sto hT (.cons (az _) (.cons rv .nil))
            refine ⟨env,S,μ,_,rl.sm sm,rx,?_⟩
            cases hg:g (.tup [.int (i:Nat),d]) env S with
            | none=>rw[hg] at o; exact o.elim
            | some p=>
              rw[hg] at o
              refine fun μ2 H2 σ2 st2 re2 rs2=>⟨p.1,p.2,μ2,⟨re2,rs2⟩,?_⟩
              have o:=OutS.of_step (stx.trans st2) o
              cases hb:b p.1 p.2 with
              | next e S=>simp only[hb] at o; exact fun μ' H' σ' s t u=>⟨e,S,μ',((st1.trans stx).trans st2).trans s,⟨t,u⟩,OutS.of_step s o⟩
              | cont e S=>simp only[hb] at o; exact fun μ' H' σ' s t u=>⟨e,S,μ',((st1.trans stx).trans st2).trans s,⟨t,u⟩,OutS.of_step s o⟩
              | brk e S=>simp only[hb] at o; exact o
              | ret d S=>simp only[hb] at o; exact o
              | exc e v S=>simp only[hb] at o; exact o
              | stuck=>simp only[hb] at o; exact o
        · exact o.elim⟩
end
end DL
namespace DL
open PySem PySem.Spec PyProof.Rows L2
def aU (env:En):List Nat→En
  | []=>env
  | v::vs=>(aU env vs).set v none
theorem df (env:En):∀vs:List Nat,(aU env vs).length=env.length
  | []=>rfl
  | v::vs=>by unfold aU; rw[List.length_set,df env vs]
theorem jS {env:En} {i:Nat} {x:D}:∀ {vs:List Nat},(aU env vs)[i]?=some (some x)→env[i]?=some (some x)∧i∉vs
  | [],h=>⟨h,by simp⟩
  | v::vs,h=>by
    unfold aU at h
    by_cases hi:v=i
    · subst hi
      by_cases hv:v<(aU env vs).length
      · rw[List.getElem?_set_self hv] at h; cases h
      · rw[List.getElem?_eq_none (by simpa using hv)] at h; cases h
    · rw[List.getElem?_set_ne hi] at h
      obtain ⟨h1,h2⟩:=jS h
      exact ⟨h1,by simp only[List.mem_cons,not_or]; exact ⟨fun e=>hi e.symm,h2⟩⟩
theorem RelE.wipe {K:PySem.W.Frag} {mg:Str→Option Value} {μ:Mu} {H:Hp} {env:En} {σ:L2.St} (h:RelE K mg μ H env σ) (vs:List Nat):RelE K mg μ H (aU env vs) (L2.wipe σ vs):=by
  refine ⟨by rw[df,wipe_length]; exact h.len,fun i d e=>?_⟩
  obtain ⟨h1,h2⟩:=jS e
  obtain ⟨v,h3,h4⟩:=h.at_ i d h1
  exact ⟨v,by rw[wipe_out h2]; exact h3,h4⟩
theorem jl {σ:L2.St} {i:Nat} {v:Option V}:∀ {vs:List Nat},i∈vs→L2.wipe (σ.set i v) vs=L2.wipe σ vs
  | [],h=>by cases h
  | j::vs,h=>by
    unfold L2.wipe
    by_cases hj:j=i
    · subst hj
      by_cases hm:j∈vs
      · rw[jl hm]
      · have:∀(ws:List Nat) (τ:L2.St),j∉ws→L2.wipe (τ.set j v) ws=(L2.wipe τ ws).set j v:=by
          intro ws
          induction ws with
          | nil=>intro τ _; rfl
          | cons k ws ih=>
            intro τ hk
            rw[List.mem_cons,not_or] at hk
            unfold L2.wipe
            rw[ih τ hk.2,List.set_comm _ _ hk.1]
        rw[this vs σ hm,List.set_set]
    · have hm:i∈vs:=by
        rcases List.mem_cons.mp h with e|e
        · exact absurd e.symm hj
        · exact e
      rw[jl hm]
def tGc (X:Cx) (vs:List Nat) (g:MG):TG:=fun v σ H Q=>∃env S μ d,Rl X.K X.mg μ H env σ S∧Rep X.K X.mg μ H d v∧OutO X.K X.mg μ H (fun σ' H'=>L2.wipe σ' vs=L2.wipe σ vs→Q σ' H') (g d env S)
def tGcs (X:Cx) (vs:List Nat) (g:MGs):TGs:=fun us σ H Q=>∃env S μ ds,Rl X.K X.mg μ H env σ S∧RepAll X.K X.mg μ H ds us∧OutO X.K X.mg μ H (fun σ' H'=>L2.wipe σ' vs=L2.wipe σ vs→Q σ' H') (g ds env S)
theorem OutO.mono {K:PySem.W.Frag} {mg:Str→Option Value} {μ:Mu} {H:Hp} {Q Q':L2.St→Hp→Prop} {r:Option (En × Sto)} (o:OutO K mg μ H Q r) (h:∀σ H,Q σ H→Q' σ H):OutO K mg μ H Q' r:=by
  cases r with
  | none=>exact o
  | some p=>exact fun μ' H' σ' s t u=>h _ _ (o μ' H' σ' s t u)
section
variable {X:Cx} {W:WX} {e tg iter elt:Expr} {pos:Pos} {g:MG} {m:ME} {mi:MI} {tc:MT} {vs:List Nat}
theorem aq {i:Nat} {x:Str} (hN:X.N.Nodup) (hi:X.N[i]?=some x) (hx:Loc X.env.scope x) (hv:i∈vs) (hf:X.fn x=true∨X.env.scope.names.lookup x=some .local:=by first|exact .inl rfl|exact .inr rfl|assumption):PG X (.Name x pos) (tGc X vs (gV i)):=
  rO (pg_name hN hi hx hf) fun v σ H Q ⟨env,S,μ,d,rl,r,o⟩=>o μ H _ .refl (rl.env.set r) rl.sto (jl hv)
theorem mD:PGs X [] (tGcs X vs gL):=qG pgs_nil fun us σ H Q ⟨env,S,μ,ds,rl,r,o⟩=>by
  cases ds with
  | nil=>unfold RepAll at r; exact ⟨r,o μ H σ .refl rl.env rl.sto rfl⟩
  | cons a b=>exact o.elim
theorem dg {es:List Expr} {gs:MGs} (h1:PG X e (tGc X vs g)) (h2:PGs X es (tGcs X vs gs))
    (hs:(assignEach (e::es) X.env).map (·.2)=assign e X.env::(assignEach es X.env).map (·.2):=by rfl):PGs X (e::es) (tGcs X vs (bI g gs)):=
  qG (pgs_cons h1 h2 hs) fun us σ H Q ⟨env,S,μ,ds,rl,r,o⟩=>by
    cases ds with
    | nil=>exact o.elim
    | cons d ds=>
      unfold RepAll at r
      obtain ⟨v,q,rfl,r1,r2⟩:=r
      refine ⟨v,q,rfl,env,S,μ,d,rl,r1,?_⟩
      have o:OutO X.K X.mg μ H _ ((g d env S).bind fun p=>gs ds p.1 p.2):=o
      cases hq:g d env S with
      | none=>rw[hq] at o; exact o.elim
      | some p=>
        rw[hq] at o
        exact fun μ' H' σ' s t u w=>⟨p.1,p.2,μ',ds,⟨t,u⟩,RepAll.step s _ _ r2,(OutO.of_step s o).mono fun σ2 H2 f w2=>f (w2.trans w)⟩
theorem qJ {es:List Expr} {k:Nat} {n:Nat} {gs:MGs} (hc:X.calm=true) (h:PGs X es (tGcs X vs gs))
    (hn:(assignEach es X.env).length=n:=by rfl) (hst:(assignEach es X.env).findIdx? (·.1)=none:=by rfl):PG X (.Tuple es k pos) (tGc X vs (fO n gs)):=
  rO (pg_tup hc h hn hst) fun v σ H Q ⟨env,S,μ,d,rl,r,o⟩=>by
    unfold fO at o
    split at o
    · rename_i ds ev
      by_cases hl:ds.length=n
      · simp only[hl,if_true] at o
        have w:=r.wv.vt
        rw[ev] at w
        obtain ⟨a,vs,rfl,h1,h2,_⟩:=w
        exact ⟨a,vs,rfl,.inl h1,by rw[←h2.length]; exact hl,env,S,μ,ds,rl,h2,o⟩
      · simp only[hl,if_false] at o; exact o.elim
    · exact o.elim
def Res.bindS {α β:Type}:Res α→(α→Sto→Res β)→Res β
  | .ok a S,f=>f a S
  | _,_=>.stuck
theorem Out.bindS {α β α' β':Type} {K:PySem.W.Frag} {mg:Str→Option Value} {μ:Mu} {H:Hp} {W W0:WX} {σ σ':L2.St} {R:Mu→Hp→α→β→Prop} {R':Mu→Hp→α'→β'→Prop} {Q:β'→Hp→Prop} {r:Res α} {f:α→Sto→Res α'} (o:Out K mg W σ μ H R' Q (r.bindS f)) :
    Out K mg W0 σ' μ H R (fun b H1=>∃μ1 S1 a,Step μ H μ1 H1∧RelS K mg μ1 H1 S1∧R μ1 H1 a b∧Out K mg W σ μ1 H1 R' Q (f a S1)) r:=by
  cases r with
  | ok a S=>exact fun μ' H' b s t u=>⟨μ',S,a,s,t,u,Out.of_step s o⟩
  | exc e S=>exact o.elim
  | stuck=>exact o
/-- one turn: the items made so far,behind it -/
def eA (g:MG) (tc:MT) (m:ME) (w:En) (d:D) (acc:List D) (S:Sto):Res (List D):=match g d w S with
  | none=>.stuck
  | some p=>(tc p.1 p.2).bindS fun c S2=>if c=true then (m p.1 S2).bindS fun v S3=>if acc.length<1000000 then .ok (acc++[v]) S3 else .stuck else .ok acc S2
def c8 (g:MG) (tc:MT) (m:ME) (w:En):List D→List D→Sto→Res (List D)
  | [],acc,S=>.ok acc S
  | d::ds,acc,S=>(eA g tc m w d acc S).bindS fun acc S=>c8 g tc m w ds acc S
def fP (g:MG) (tc:MT) (m:ME) (w:En) (l:Nat):Nat→Nat→List D→Sto→Res (List D)
  | 0,_,_,_=>.stuck
  | n+1,i,acc,S=>match S[l]? with
    | some (.lst xs)=>match xs[i]? with
      | none=>.ok acc S
      | some d=>(eA g tc m w d acc S).bindS fun acc S=>fP g tc m w l n (i+1) acc S
    | _=>.stuck
def iU (g:MG) (tc:MT) (m:ME) (w:En) (l:Nat):Nat→Nat→List D→Sto→Res (List D)
  | 0,_,_,_=>.stuck
  | n+1,i,acc,S=>match S[l]? with
    | some (.lst xs)=>match xs[i]? with
      | none=>.ok acc S
      | some d=>(eA g tc m w (.tup [.int (i:Nat),d]) acc S).bindS fun acc S=>iU g tc m w l n (i+1) acc S
    | _=>.stuck
def gN (mi:MI) (g:MG) (tc:MT) (m:ME) (vs:List Nat):MA:=fun env S=>(mi env S).bind fun it S=>match it with
  | .items ds=>c8 g tc m (aU env vs) ds [] S
  | .live l=>fP g tc m (aU env vs) l (dB S l+1) 0 [] S
  | .liveE l=>iU g tc m (aU env vs) l (dB S l+1) 0 [] S
def b6 (mi:MI) (g:MG) (tc:MT) (m:ME) (vs:List Nat):ME:=fun env S=>(gN mi g tc m vs env S).bind fun ds S=>.ok (.lst ds) S
def mn (mi:MI) (g:MG) (tc:MT) (m:ME) (vs:List Nat):ME:=fun env S=>(gN mi g tc m vs env S).bind fun ds S=>.ok (.loc S.length) (S++[.lst ds])
abbrev W0:WX:=fun _ _ _ _=>False
def cD:MT:=fun _ S=>.ok true S
def qK (X:Cx) (ifs:List Expr) (tc:MT):Prop:=PTs X ifs (tT X W0 tc)
theorem cQ:qK X [] cD:=⟨fun pins s σ H Q I ⟨env,S,μ,rl,o⟩=>pts_nil.run pins s σ H Q I (o μ H true .refl rl.sto rfl)⟩
theorem eS {c:Expr} (h:PT X c (tT X W0 tc)):qK X [c] tc:=pts_one h
/-- what a comprehension gives -/
def RL (K:PySem.W.Frag) (mg:Str→Option Value) (μ:Mu) (H:Hp) (ds:List D) (v:V):Prop:=∃p us,v=.ref p∧H p=some (.lst us)∧p∉μ∧RepAll K mg μ H ds us
theorem fU:∀(ws vs:List Nat) (τ:L2.St),(∀i∈ws,i∈vs)→L2.wipe (L2.wipe τ ws) vs=L2.wipe τ vs
  | [],vs,τ,_=>rfl
  | k::ws,vs,τ,hk=>by
    show L2.wipe ((L2.wipe τ ws).set k none) vs=_
    rw[jl (hk k List.mem_cons_self)]
    exact fU ws vs τ fun i hi=>hk i (List.mem_cons_of_mem _ hi)
/-- what stays,but what is being made at p -/
structure StP (p:Addr) (μ:Mu) (H:Hp) (μ':Mu) (H':Hp):Prop extends Stp μ H μ' H' where
  hid:μ'.h=μ.h
  hk:∀a u,a≠p→a∈μ.h→H a=some u→NTb u→H' a=some u
theorem StP.of {p:Addr} {μ μ':Mu} {H H':Hp} (s:Step μ H μ' H'):StP p μ H μ' H':=⟨s.toStp,s.hid,fun a u _ h e t=>s.hk a u h e t⟩
theorem StP.trans {p:Addr} {μ μ' μ2:Mu} {H H' H2:Hp} (s:StP p μ H μ' H') (t:StP p μ' H' μ2 H2):StP p μ H μ2 H2:=⟨s.toStp.trans t.toStp,t.hid.trans s.hid,fun a u n h e nt=>t.hk a u n (by rw[s.hid]; exact h) (s.hk a u n h e nt) nt⟩
theorem StP.write {p:Addr} {μ:Mu} {H:Hp} {o:HO} (h:p∈μ.h) (nf:NF H p):StP p μ H μ (upd H p o):=⟨.write_hid h nf,rfl,fun a u n _ e _=>by rw[upd_ne n]; exact e⟩
/-- a turn's reading -/
theorem mE {W:WX} {vs:List Nat} {σ σo:L2.St} {w:En} {p:Addr} {Q:V→Hp→Prop} {μ1 μ2:Mu} {H1 H2:Hp} {S2:Sto} {d:D} {x:V} {acc:List D} {us:List V} {N:Hp→Prop} {f:List D→Sto→Res (List D)}
    (re:RelE X.K X.mg μ2 H2 w (L2.wipe σ vs)) (rs:RelS X.K X.mg μ2 H2 S2) (hp:H2 p=some (.lst us)) (np:p∈μ2.h) (ra:RepAll X.K X.mg μ2 H2 acc us) (rx:Rep X.K X.mg μ2 H2 d x)
    (o:Out X.K X.mg W σo μ1 H1 (RL X.K X.mg) Q ((eA g tc m w d acc S2).bindS f))
    (hN:∀μ3 H3 S3 acc' us',StP p μ2 H2 μ3 H3→RelS X.K X.mg μ3 H3 S3→H3 p=some (.lst us')→RepAll X.K X.mg μ3 H3 acc' us'→Out X.K X.mg W σo μ1 H1 (RL X.K X.mg) Q (f acc' S3)→N H3) :
    tGc X vs g x (L2.wipe σ vs) H2 fun σ2 H3=>L2.wipe σ2 vs=L2.wipe σ vs∧tT X W0 tc σ2 H3 fun b H4=>if b=true then tE X W0 m σ2 H4 fun y H5=>∃acc,H5 p=some (.lst acc)∧acc.length<sizeLine∧N (upd H5 p (.lst (acc++[y]))) else N H4:=by
  refine ⟨w,S2,μ2,d,⟨re,rs⟩,rx,?_⟩
  unfold eA at o
  cases hg:g d w S2 with
  | none=>simp only[hg,Res.bindS] at o; exact o.elim
  | some q=>
    obtain ⟨e,Se⟩:=q
    simp only[hg] at o
    intro μ3 H3 σ3 st3 re3 rs3 hw
    refine ⟨hw.trans (fU vs vs σ fun i hi=>hi),e,Se,μ3,⟨re3,rs3⟩,?_⟩
    have hp3:H3 p=some (.lst us):=st3.hk _ _ np hp
    have np3:p∈μ3.h:=by rw[st3.hid]; exact np
    have ra3:=RepAll.step st3 _ _ ra
    cases htc:tc e Se with
    | exc a b=>simp only[htc,Res.bindS] at o; exact o.elim
    | stuck=>simp only[htc,Res.bindS] at o; exact o.elim
    | ok c S4=>
      simp only[htc,Res.bindS] at o
      intro μ4 H4 b st4 rs4 hb
      subst hb
      have hp4:=st4.hk _ _ np3 hp3
      have np4:p∈μ4.h:=by rw[st4.hid]; exact np3
      have ra4:=RepAll.step st4 _ _ ra3
      cases b with
      | false=>
        simp only[Bool.false_eq_true,if_false] at o ⊢
        exact hN μ4 H4 S4 acc us (.of (st3.trans st4)) rs4 hp4 ra4 o
      | true=>
        simp only[if_true] at o ⊢
        refine ⟨e,S4,μ4,⟨re3.step st4,rs4⟩,?_⟩
        cases hm:m e S4 with
        | exc a b=>simp only[hm,Res.bindS] at o; exact o.elim
        | stuck=>simp only[hm,Res.bindS] at o; exact o.elim
        | ok v S5=>
          simp only[hm,Res.bindS] at o
          intro μ5 H5 y st5 rs5 ry
          have hp5:=st5.hk _ _ np4 hp4
          have np5:p∈μ5.h:=by rw[st5.hid]; exact np4
          have ra5:=RepAll.step st5 _ _ ra4
          by_cases hl:acc.length<1000000
          · simp only[hl,if_true] at o
            have sw:StP p μ5 H5 μ5 (upd H5 p (.lst (us++[y]))):=.write np5 (.of hp5)
            refine ⟨us,hp5,?_,?_⟩
            · rw[←ra.length,sizeLine_eq]; omega
            · exact hN μ5 _ S5 (acc++[v]) (us++[y]) ((StP.of ((st3.trans st4).trans st5)).trans sw) (rs5.write_hid np5) upd_same
                (RepAll.stp sw.toStp _ _ (ra5.append (.cons ry .nil))) o
          · simp only[hl,if_false] at o; exact o.elim
theorem uW {own:List (Str × Nat)} {σ:L2.St} {H:Hp} {Q:VK} {W:WX} (h:tM X (RL X.K X.mg) W (gN mi g tc m (own.map (·.2))) σ H Q) :
    tLc (tI X W mi) (tGc X (own.map (·.2)) g) (tT X W0 tc) (tE X W0 m) (own.map (·.2)) σ H Q:=by
  obtain ⟨env,S,μ,rl,o⟩:=h
  generalize own.map (·.2)=vs at *
  refine ⟨env,S,μ,rl,(Out.bind o).mono fun J H1 ⟨μ1,S1,it,st,rs,rd,o1⟩ p hp=>?_⟩
  have rw1:RelE X.K X.mg μ1 H1 (aU env vs) (L2.wipe σ vs):=(rl.env.step st).wipe vs
  generalize aU env vs=w at *
  -- where it begins
  have sh:Stp μ1 H1 (μ1.hide p) (upd H1 p (.lst [])):=.new_hid hp
  have fin:∀(μ2:Mu) (H2:Hp) (S2:Sto) (acc:List D) (us:List V),StP p (μ1.hide p) (upd H1 p (.lst [])) μ2 H2→RelS X.K X.mg μ2 H2 S2→H2 p=some (.lst us)→RepAll X.K X.mg μ2 H2 acc us→Out X.K X.mg W σ μ1 H1 (RL X.K X.mg) Q (.ok acc S2)→Q (.ref p) H2:=by
    intro μ2 H2 S2 acc us sp rs2 hp2 ra o
    have sub:∀a∈μ1.h,a∈μ2.h:=fun a ha=>by rw[sp.hid]; exact List.mem_cons_of_mem _ ha
    have su:Stp μ2 H2 ⟨μ2.l,μ1.h⟩ H2:=.unhide sub
    have np:p∉(⟨μ2.l,μ1.h⟩:Mu):=fun z=>z.elim (fun z=>rs2.dis p z (by rw[sp.hid]; exact List.mem_cons_self)) (rs.notinH hp)
    exact o ⟨μ2.l,μ1.h⟩ H2 (.ref p) ⟨(sh.trans sp.toStp).trans su,rfl,fun a u ha e nt=>sp.hk a u (ne_of_none e hp) (List.mem_cons_of_mem _ ha) (by rw[upd_ne (ne_of_none e hp)]; exact e) nt⟩ (rs2.unhide sub)
      ⟨p,us,rfl,hp2,np,RepAll.stp su _ _ ra⟩
  have npm:∀ {μ2:Mu} {H2:Hp},StP p (μ1.hide p) (upd H1 p (.lst [])) μ2 H2→p∈μ2.h:=fun sp=>by rw[sp.hid]; exact List.mem_cons_self
  have st0:StP p (μ1.hide p) (upd H1 p (.lst [])) (μ1.hide p) (upd H1 p (.lst [])):=.of .refl
  cases it with
  | items ds=>
    have rd:dZ X.K X.mg μ1 H1 ds J:=rd
    refine ⟨fun i n H=>n+i=ds.length∧∃μ S acc us,StP p (μ1.hide p) (upd H1 p (.lst [])) μ H∧RelS X.K X.mg μ H S∧H p=some (.lst us)∧RepAll X.K X.mg μ H acc us∧Out X.K X.mg W σ μ1 H1 (RL X.K X.mg) Q (c8 g tc m w (ds.drop i) acc S),
      ⟨ds.length,rfl,_,S1,[],[],st0,rs.hide hp,upd_same,.nil,o1⟩,?_⟩
    rintro i n H ⟨hn,μ,S,acc,us,sp,rs,hpp,ra,o⟩
    have sb:Stp μ1 H1 μ H:=sh.trans sp.toStp
    by_cases hi:i<ds.length
    · have ed:ds.drop i=ds[i]::ds.drop (i+1):=List.drop_eq_getElem_cons hi
      rw[ed] at o
      unfold c8 at o
      refine .inr ⟨rd.goes i μ H hi sb,fun H=>∃μ S acc us,StP p (μ1.hide p) (upd H1 p (.lst [])) μ H∧RelS X.K X.mg μ H S∧H p=some (.lst us)∧RepAll X.K X.mg μ H acc us∧Out X.K X.mg W σ μ1 H1 (RL X.K X.mg) Q (c8 g tc m w (ds.drop (i+1)) acc S),fun H' w=>⟨n - 1,by omega,by omega,w⟩,fun x H' y=>?_⟩
      obtain ⟨sm,rx⟩:=rd.yields i _ μ H S x H' (List.getElem?_eq_getElem hi) sb rs y
      have sx:Step μ H μ H':=.of_sm sm
      have spx:=sp.trans (StP.of sx)
      refine mE ((rw1.stp sh).stp spx.toStp) (rs.sm sm) (sm _ _ hpp) (npm spx) (RepAll.step sx _ _ ra) rx o fun μ3 H3 S3 acc' us' s3 rs3 hp3 ra3 o3=>⟨μ3,S3,acc',us',spx.trans s3,rs3,hp3,ra3,o3⟩
    · have e:i=ds.length:=by omega
      subst e
      rw[List.drop_length] at o
      exact .inl ⟨rd.stops μ H sb,fin μ H S acc us sp rs hpp ra o⟩
  | live l=>
    obtain ⟨a,ha,rfl⟩:=rd
    refine ⟨fun i n H=>∃μ S acc us,StP p (μ1.hide p) (upd H1 p (.lst [])) μ H∧RelS X.K X.mg μ H S∧H p=some (.lst us)∧RepAll X.K X.mg μ H acc us∧Out X.K X.mg W σ μ1 H1 (RL X.K X.mg) Q (fP g tc m w l n i acc S),
      ⟨_,_,S1,[],[],st0,rs.hide hp,upd_same,.nil,o1⟩,?_⟩
    rintro i n H ⟨μ,S,acc,us,sp,rs,hpp,ra,o⟩
    have sb:Stp μ1 H1 μ H:=sh.trans sp.toStp
    cases n with
    | zero=>exact o.elim
    | succ n=>
      unfold fP at o
      split at o
      · rename_i xs es
        obtain ⟨a',h1,vs',h2,h3⟩:=rs.at_ _ _ es
        rw[sb.get ha] at h1; cases h1
        split at o
        · rename_i hx
          refine .inl ⟨⟨vs',.of h2,?_⟩,fin μ H S acc us sp rs hpp ra o⟩
          rw[←h3.length]
          exact List.getElem?_eq_none_iff.mp hx
        · rename_i d hx
          obtain ⟨v,hv,rv⟩:=h3.get hx
          refine .inr ⟨⟨vs',v,.of h2,hv⟩,fun H=>∃μ S acc us,StP p (μ1.hide p) (upd H1 p (.lst [])) μ H∧RelS X.K X.mg μ H S∧H p=some (.lst us)∧RepAll X.K X.mg μ H acc us∧Out X.K X.mg W σ μ1 H1 (RL X.K X.mg) Q (fP g tc m w l n (i+1) acc S),fun H' w=>⟨n,Nat.lt_succ_self n,w⟩,fun x H' y=>?_⟩
          obtain ⟨rfl,y⟩:=y
          have q:=y vs' (.of h2)
          rw[hv] at q; cases q
          exact mE ((rw1.stp sh).stp sp.toStp) rs hpp (npm sp) ra rv o fun μ3 H3 S3 acc' us' s3 rs3 hp3 ra3 o3=>⟨μ3,S3,acc',us',sp.trans s3,rs3,hp3,ra3,o3⟩
      · exact o.elim
  | liveE l=>
    obtain ⟨a,ha,rfl⟩:=rd
    refine ⟨fun i n H=>∃μ S acc us,StP p (μ1.hide p) (upd H1 p (.lst [])) μ H∧RelS X.K X.mg μ H S∧H p=some (.lst us)∧RepAll X.K X.mg μ H acc us∧Out X.K X.mg W σ μ1 H1 (RL X.K X.mg) Q (iU g tc m w l n i acc S),
      ⟨_,_,S1,[],[],st0,rs.hide hp,upd_same,.nil,o1⟩,?_⟩
    rintro i n H ⟨μ,S,acc,us,sp,rs,hpp,ra,o⟩
    have sb:Stp μ1 H1 μ H:=sh.trans sp.toStp
    cases n with
    | zero=>exact o.elim
    | succ n=>
      unfold iU at o
      split at o
      · rename_i xs es
        obtain ⟨a',h1,vs',h2,h3⟩:=rs.at_ _ _ es
        rw[sb.get ha] at h1; cases h1
        split at o
        · rename_i hx
          refine .inl ⟨⟨vs',.of h2,?_⟩,fin μ H S acc us sp rs hpp ra o⟩
          rw[←h3.length]
          exact List.getElem?_eq_none_iff.mp hx
        · rename_i d hx
          obtain ⟨v,hv,rv⟩:=h3.get hx
          refine .inr ⟨⟨vs',v,.of h2,hv⟩,fun H=>∃μ S acc us,StP p (μ1.hide p) (upd H1 p (.lst [])) μ H∧RelS X.K X.mg μ H S∧H p=some (.lst us)∧RepAll X.K X.mg μ H acc us∧Out X.K X.mg W σ μ1 H1 (RL X.K X.mg) Q (iU g tc m w l n (i+1) acc S),fun H' w=>⟨n,Nat.lt_succ_self n,w⟩,fun x H' y=>?_⟩
          obtain ⟨T,z,rfl,hT,rfl,y⟩:=y
          have q:=y vs' (.of h2)
          rw[hv] at q; cases q
          have sm:Sm H (upd H T (.tup [.int (i:Int),v])):=.upd hT
          have sx:Step μ H μ (upd H T (.tup [.int (i:Int),v])):=.of_sm sm
          have rx:Rep X.K X.mg μ (upd H T (.tup [.int (i:Int),v])) (.tup [.int (i:Nat),d]) (.ref T):=bQ rs hT (.cons (az _) (.cons rv .nil))
          have spx:=sp.trans (StP.of sx)
          exact mE ((rw1.stp sh).stp spx.toStp) (rs.sm sm) (sm _ _ hpp) (npm spx) (RepAll.step sx _ _ ra) rx o fun μ3 H3 S3 acc' us' s3 rs3 hp3 ra3 o3=>⟨μ3,S3,acc',us',spx.trans s3,rs3,hp3,ra3,o3⟩
      · exact o.elim
theorem xm {K:PySem.W.Frag} {mg:Str→Option Value} {μ:Mu} {H:Hp} {ds:List D} {v:V} (r:RL K mg μ H ds v):Rep K mg μ H (.lst ds) v:=by
  obtain ⟨p,us,e,h1,n,h2⟩:=r
  unfold Rep
  exact ⟨p,us,e,h1,n,h2⟩
/-- frozen -/
theorem ke {σ:L2.St} {H:Hp} {Q:VK} {W:WX} (h:tE X W (b6 mi g tc m vs) σ H Q):tM X (RL X.K X.mg) W (gN mi g tc m vs) σ H Q:=by
  obtain ⟨env,S,μ,rl,o⟩:=h
  refine ⟨env,S,μ,rl,(Out.bind (R:=RL X.K X.mg) o).mono fun v H1 ⟨μ1,S1,ds,st,rs,r,o1⟩=>o1 μ1 H1 v .refl rs (xm r)⟩
section
variable {scope:Scope} {own:List (Str × Nat)} {W:WX} {ifs:List Expr}
theorem cF (hc:X.calm=true) (hN:X.N.Nodup) (hi:PI X tg iter (tI X W mi)) (ok:BlkOk X.N X.env.scope scope own)
    (hg:∀(s:Shared) (H:Hp) (C:Addr) (cl:List (Str × Addr)) (fp:List Addr),PG (X.blk s H scope (compEnvC scope cl C X.env) fp) tg (tGc (X.blk s H scope (compEnvC scope cl C X.env) fp) (own.map (·.2)) g))
    (ht:∀(s:Shared) (H:Hp) (C:Addr) (cl:List (Str × Addr)) (fp:List Addr),qK (X.blk s H scope (compEnvC scope cl C X.env) fp) ifs tc)
    (he:∀(s:Shared) (H:Hp) (C:Addr) (cl:List (Str × Addr)) (fp:List Addr),PE (X.blk s H scope (compEnvC scope cl C X.env) fp) elt (tE (X.blk s H scope (compEnvC scope cl C X.env) fp) W0 m)) (hs:∀x,foldedSetIterable iter X.env x=pure x:=by intro _; rfl) :
    PE X (.ListComp elt [⟨tg,iter,ifs,0⟩] scope pos) (tE X W (b6 mi g tc m (own.map (·.2)))):=
  cA (pe_lc (g:=tGc X (own.map Prod.snd) g) (tt:=tT X W0 tc) (te:=tE X W0 m) hc hN hi ok hg ht he hs) fun σ H Q h=>uW (ke h)
theorem mq {i:Nat} {y:Str} {py spos:Pos} (hc:X.calm=true) (hN:X.N.Nodup) (hy:X.N[i]?=some y) (hyl:X.env.scope.names.lookup y=some .local)
    (hsw:swapsWith (.ListComp elt [⟨tg,iter,ifs,0⟩] scope pos) (some (.Name y py)) spos.line X.env=pure true) (hi:PI X tg iter (tI X W mi)) (ok:BlkOk X.N X.env.scope scope own)
    (hg:∀(s:Shared) (H:Hp) (C:Addr) (cl:List (Str × Addr)) (fp:List Addr),PG (X.blk s H scope (compEnvC scope cl C X.env) fp) tg (tGc (X.blk s H scope (compEnvC scope cl C X.env) fp) (own.map (·.2)) g))
    (ht:∀(s:Shared) (H:Hp) (C:Addr) (cl:List (Str × Addr)) (fp:List Addr),qK (X.blk s H scope (compEnvC scope cl C X.env) fp) ifs tc)
    (he:∀(s:Shared) (H:Hp) (C:Addr) (cl:List (Str × Addr)) (fp:List Addr),PE (X.blk s H scope (compEnvC scope cl C X.env) fp) elt (tE (X.blk s H scope (compEnvC scope cl C X.env) fp) W0 m)) (hs:∀x,foldedSetIterable iter X.env x=pure x:=by intro _; rfl) :
    PS X (.Assign [.Name y py] (.ListComp elt [⟨tg,iter,ifs,0⟩] scope pos) spos) (tS X W (bF i (b6 mi g tc m (own.map (·.2))))):=
  fZ (ps_setLc (g:=tGc X (own.map Prod.snd) g) (tt:=tT X W0 tc) (te:=tE X W0 m) hc hN hy hyl hsw hi ok hg ht he hs) fun D σ H ⟨env,S,μ,rl,o⟩=>uW (ke ⟨env,S,μ,rl,(OutS.rs rl.env o).mono fun x H1 ⟨μ1,S1,d,st,rs,r,o1⟩=>o1 μ1 H1 _ .refl ((rl.env.step st).set r) rs⟩)
end
end
end DL
set_option maxHeartbeats 4000000
namespace DL
open PySem PySem.Spec PyProof.Rows L2
abbrev Takes (X:Cx) (W:WX):Prop:=L2N.Takes X W
theorem passAt {X:Cx} {W:WX} (tk:Takes X W) (σ:L2.St):PassesAt (L2N.CX X.prog X.w) X σ (WE W σ):=L2N.passAt tk σ
theorem takes_of {X:Cx} {E:XK} (hs:X.stack=X.env::X.outer) (hf:X.env.frame=some X.env.locals) (hex:X.ex=[]) {E₁:Value→Shared→Prop}
    (hx:X.xe=fun e s'=>wpAny (model X.prog X.w) X.A (leaving X.env e) (fun _ s''=>L2N.CX X.prog X.w X.outer X.H_0 X.s_0 E e s'') E₁ s'):Takes X fun cls d _ H=>E cls d H:=L2N.takes_of hs hf hex hx
/-- what is a wish of L2's is one of these -/
theorem mr {X:Cx} {W:WX} (tk:L2.Takes X W):Takes X W:=fun u s' ⟨a,B,sI,pins,σ,H,cls,d,e,I,nb,up,sky,na,os,ag,w⟩=>
  tk u s' ⟨a,B,sI,pins,σ,H,cls,d,e,I,nb,up,(by
    rcases sky with ⟨h1,h2,h3,oe,vs,h4,z,h5⟩|⟨h1,h2,h3,oe,vs,T,oT,ts,h4,z,h5⟩|⟨h1,h2,h3,oe,vs,T,oT,ts,h4,z,h5⟩
    · exact .inl ⟨h1,h2,h3,oe,vs,h4,⟨z.1,z.2.1⟩,h5⟩
    · exact .inr (.inl ⟨h1,h2,h3,oe,vs,T,oT,ts,h4,⟨z.1,z.2.1⟩,h5⟩)
    · exact .inr (.inr ⟨h1,h2,h3,oe,vs,T,oT,ts,h4,⟨z.1,z.2.1⟩,h5⟩)),na,os,ag,w⟩
theorem takes0 {X:Cx}:Takes X (fun _ _ _ _=>False):=mr LamX.takes0
section
variable {X:Cx} {CX:CXT} {x:Str} {e:Expr} {es:List Expr} {ta:TA} {p pos:Pos} {C fI:Addr} {k:Nat} {fd:FuncData} {ps:List Str} {sp:Sp}
/-- an error whose class has an own __init__,its context None -/
theorem xn (T:OexC X.K C) (iC:PySem.W.findIn X.K (.ref C) "__init__"=some (some (.ref fI))) (tI:PySem.W.typeIn X.K (.ref fI)=some (.type "function")) (F1:FnOk X.prog X.w X.K X.mg X.base CX k fI fd ps sp) (hr:Room (k+1) X.A) (hb:L2.Binds X.K fd ps [])
    (hx:Passes CX X fun _ _ _=>False) (hg:Gl X x) (hm:X.mg x=some (.ref C)) (ha:PA X (e::es) ta) (hdb:(x == ("__debug__":Str))=false) (he:starEach (e::es) X.env=(false,eval e X.env)::starEach es X.env) (hpl:(backTo pos (starEach es X.env)).any (·.1)=false) :
    L2N.PMk X (.Call (.Name x p) (e::es) [] pos) (tMkO C sp [] ta):=by
  intro pins s σ H Q I h
  obtain ⟨nm,q,N,bs,bm,sn,sub,ab,col,dd,k0,k1,k2,k3,k5,hC,hbm⟩:=T.cls
  refine wpAny_Call_Name_kw (ld_glob I hg hm (PySem.W.callWith_K I.ok.mod.kin T.kC (thn (ha.run pos pins s σ H _ I h) fun us s1 ⟨vs,H1,I1,r1,hz,q1⟩=>⟨I1.kIn,?_⟩) he hpl) hdb)
  obtain ⟨hp,g,dr,tk,os⟩:=s1
  have hsz:=Nat.le_succ hp.objs.size
  have hn:=I1.hok.fresh hsz
  have hq:=q1 (hp.objs.size+1) hn
  rw[List.append_nil] at hq
  have kk:∀b o,hp.get? b=some o→((hp.push (PySem.W.kdv_tup us)).push (HandSPX.excO C hp.objs.size)).get? b=some o:=fun b o e=>Heap.get?_push_of_some (HandSPX.excO C hp.objs.size) (Heap.get?_push_of_some (PySem.W.kdv_tup us) e)
  have hget:((hp.push (PySem.W.kdv_tup us)).push (HandSPX.excO C hp.objs.size)).get? (hp.objs.size+1)=some (HandSPX.excO C hp.objs.size):=Heap.get?_push_at (by rw[Heap.size_push]) rfl
  have I2:=I1.laid (t':=tk) kk hsz (exo_ok hget)
  have r2:Vals (.ref (hp.objs.size+1)::vs) (.ref (hp.objs.size+1)::us):=.cons rfl r1
  have hl:(Value.ref (hp.objs.size+1)::us).length=ps.length:=by
    have:=F1.len _ _ _ _ hq
    rw[←this]
    exact (Vals.length r2).symm
  have hbt:BindsTo ({ heap:=(hp.push (PySem.W.kdv_tup us)).push (HandSPX.excO C hp.objs.size),gens:=g,drawn:=dr,toks:=tk,os:=os }:Shared) fd { pos:=.ref (hp.objs.size+1)::us } (ps.zip (.ref (hp.objs.size+1)::us)):=by
    have:=hb { heap:=(hp.push (PySem.W.kdv_tup us)).push (HandSPX.excO C hp.objs.size),gens:=g,drawn:=dr,toks:=tk,os:=os } (.ref (hp.objs.size+1)::us) I2.kIn (by rw[List.append_nil]; exact hl)
    rw[List.append_nil] at this
    exact this
  have hus:us.length≤sizeLine:=by
    rw[←Paired.length r1,sizeLine_eq]
    omega
  refine wpAny_call (HandSPX.call_own PySem.F.excBase_ValueError (fun Y=>HandSPX.refsVE_contains Y bm hbm) (I1.kIn C _ hC) (PySem.W.looks_findIn I1.kIn iC) (fun self=>PySem.W.bind_fn I1.kIn self tI) hus
    (codeAny_mono (F1.run _ X.stack _ _ { pos:=.ref (hp.objs.size+1)::us } (.ref (hp.objs.size+1)::us) (.ref (hp.objs.size+1)::vs) _ _ (hr.make C us []) (I2.env0.make C us []) hbt r2 hq) fun r s' hq'=>?_))
  cases r with
  | error er=>exact hx pins σ _ _ er s' I2 hq'
  | ok fl=>
    cases fl with
    | next=>exact False.elim hq'
    | brk=>exact False.elim hq'
    | cont=>exact False.elim hq'
    | ret v=>
      obtain ⟨v2,H2,os2,bare2,un2,hok2,rv,rfl,d,fs,ea,ed,hd1,q2⟩:=hq'
      obtain ⟨h2,g2,d2,t2,os'⟩:=s'
      refine ⟨rv,?_⟩
      obtain ⟨t0,G,IG,kG,nG,hG,na⟩:=mk_end0 (d1:=dr) (t1:=tk) (d2:=d2) (t2:=t2) I1 hsz kk un2 hok2 os2 bare2 ea ed hd1
      exact ⟨_,_,_,_,_,_,_,rfl,IG,kG,nG,hG,⟨rfl,rfl,fun vs e=>by cases e; rfl⟩,rfl,rfl,na,rfl,bare2,raises_own T.exC T.tyC,q2⟩
end
end DL
namespace DL
open PySem PySem.Spec PyProof.Rows L2
abbrev MF:=List D→Sto→Res D
def chk (n:Nat) (m:MF):MF:=fun ds S=>if ds.length=n then m ds S else .stuck
/-- what a def promises -/
def spD (K:PySem.W.Frag) (mg:Str→Option Value) (n:Nat) (m:MF):Sp:=fun vs H Q E=>∃ds S μ,RelS K mg μ H S∧RepAll K mg μ H ds vs∧Out K mg (fun c d _ H'=>E c d H') [] μ H (fun μ H a b=>Rep K mg μ H a b) Q (chk n m ds S)
theorem zi {K:PySem.W.Frag} {mg:Str→Option Value} {n:Nat} {m:MF} {vs:List V} {H:Hp} {Q:VK} {E:XK} (h:spD K mg n m vs H Q E):vs.length=n:=by
  obtain ⟨ds,S,μ,rs,ra,o⟩:=h
  unfold chk at o
  split at o
  · rename_i e; rw[←ra.length]; exact e
  · exact o.elim
structure FnM (P:Program) (w:World) (K:PySem.W.Frag) (mg:Str→Option Value) (base:Heap) (k:Nat) (f:Addr) (fd:FuncData) (ps:List Str) (m:MF):Prop where
  ok:FnOk P w K mg base (L2N.CX P w) k f fd ps (spD K mg ps.length m)
  kp:PySem.W.keepIn K (.ref f)=true
  b:Binds K fd ps []
/-- a body,run -/
def bG (n:Nat) (m:MS):MF:=fun ds S=>match m (ds.map some++List.replicate n none) S with
  | .next _ S=>.ok .none S
  | .ret d S=>.ok d S
  | .exc e _ S=>.exc e S
  | _=>.stuck
theorem uX {K:PySem.W.Frag} {mg:Str→Option Value} {μ:Mu} {H:Hp} {N:List Str}:∀ {ds:List D} {vs:List V},RepAll K mg μ H ds vs→RelE K mg μ H (ds.map some++List.replicate (N.length - ds.length) none) (L2.start N vs):=fun {ds vs} r=>by
  unfold L2.start
  have hl:=r.length
  refine ⟨by simp[hl],fun i d e=>?_⟩
  by_cases hi:i<ds.length
  · rw[List.getElem?_append_left (by simpa using hi),List.getElem?_map] at e
    obtain ⟨d',h1,h2⟩:=Option.map_eq_some_iff.mp e
    cases h2
    obtain ⟨v,h3,h4⟩:=r.get h1
    exact ⟨v,by rw[List.getElem?_append_left (by rw[List.length_map,←hl]; exact hi),List.getElem?_map,h3]; rfl,h4⟩
  · rw[List.getElem?_append_right (by simpa using Nat.le_of_not_lt hi)] at e
    have:=List.getElem?_replicate (a:=(none:Option D)) (n:=N.length - ds.length) (i:=i - (ds.map some).length)
    rw[this] at e
    split at e<;>cases e
def aS (n:Nat) (m:MF) (r:MA):ME:=fun env S=>(r env S).bind fun ds S=>chk n m ds S
theorem mF {K:PySem.W.Frag} {mg:Str→Option Value} {μ:Mu} {H:Hp} {α β:Type} {W:WX} {R:Mu→Hp→α→β→Prop} {Q:β→Hp→Prop} {σ:L2.St} {r:Res α} (o:Out K mg W σ μ H R Q r):Out K mg (fun c d _ H'=>WE W σ c d H') [] μ H R Q r:=by
  cases r with
  | ok a S=>exact o
  | exc e S=>exact o
  | stuck=>exact o
section
variable {X:Cx} {W:WX} {k:Nat} {f C:Addr} {fd:FuncData} {ps:List Str} {m mi:MF} {x nm cn:Str} {p pos apos:Pos} {e o:Expr} {es:List Expr} {r:MA} {ma mv:ME}
theorem t_call {σ:L2.St} {H:Hp} {Q:VK} (h:tE X W (aS ps.length m r) σ H Q):tCallSD (spD X.K X.mg ps.length m) [] (WE W) (tAs X W r) σ H Q:=by
  obtain ⟨env,S,μ,rl,o⟩:=h
  exact ⟨env,S,μ,rl,(Out.bind o).mono fun vs H1 ⟨μ1,S1,ds,st,rs,rd,o1⟩=>⟨ds,S1,μ1,rs,by rw[List.append_nil]; exact rd,mF o1⟩⟩
theorem zj (F:FnM X.prog X.w X.K X.mg X.base k f fd ps m) (hr:Room k X.A) (hg:Gl X x) (hm:X.mg x=some (.ref f)) (tk:Takes X W)
    (ha:PA X (e::es) (tAs X W r)) (hdb:(x == ("__debug__":Str))=false:=by decide) (he:starEach (e::es) X.env=(false,eval e X.env)::starEach es X.env:=by rfl) (hpl:(backTo pos (starEach es X.env)).any (·.1)=false:=by rfl) :
    PE X (.Call (.Name x p) (e::es) [] pos) (tE X W (aS ps.length m r)):=cA (pe_callSD F.ok hr hg hm F.kp F.b .nil (passAt tk) ha hdb he hpl) fun _ _ _ h=>t_call h
def dG (cn nm:Str) (n:Nat) (m:MF) (ma:ME) (r:MA):ME:=fun env S=>(ma env S).bind fun d S=>match d with
  | .loc l=>match S[l]? with
    | some (.ins C fs)=>if C=cn∧(fs.map (·.1)).contains nm=false then (r env S).bind fun ds S=>chk n m (.loc l::ds) S else .stuck
    | _=>.stuck
  | _=>.stuck
theorem fH {nm:Str}:∀ {ns:List Str} {vs:List V},ns.contains nm=false→(ns.zip vs).lookup nm=none
  | [],vs,_=>by simp
  | n::ns,[],_=>by simp
  | n::ns,v::vs,h=>by
    rw[List.contains_cons,Bool.or_eq_false_iff] at h
    rw[List.zip_cons_cons,List.lookup_cons,h.1]
    exact fH h.2
theorem zk {pl:Sem Bool} (he:PE X o (tE X W ma)) (hC:X.mg cn=some (.ref C)) (c:Cls X.K C) (hm:Meth X.K C nm f) (F:FnM X.prog X.w X.K X.mg X.base k f fd ps m) (hr:Room k X.A) (tk:Takes X W) (ha:PA X (e::es) (tAs X W r))
    (hst:starEach (e::es) X.env=(false,eval e X.env)::starEach es X.env:=by rfl) (hpl:(backTo pos (starEach es X.env)).any (·.1)=false:=by rfl)
    (ht:eval (.Call (.Attribute o nm apos) (e::es) [] pos) X.env=(do
      let ov ←eval o X.env
      standAt apos.atName
      let (f,first) ←holding [ov] (getMethod ov nm pl)
      callWith pos f first (backTo pos (starEach (e::es) X.env)) (backToKw pos (keywordEach [] X.env))):=by rfl) :
    PE X (.Call (.Attribute o nm apos) (e::es) [] pos) (tE X W (dG cn nm ps.length m ma r)):=by
  refine ⟨fun pins s σ H Q I ⟨env,S,μ,rl,o⟩=>?_⟩
  refine PySem.W.methodCall_KW (pl:=pl) (thn (he.run pins s σ H _ I ⟨env,S,μ,rl,Out.bind o⟩) fun u s1 ⟨x,H1,I1,rx,μ1,S1,d,st,rs,rd,o1⟩=>?_) ht
  cases d with
  | loc l=>
    unfold Rep at rd
    obtain ⟨a,rfl,hμ⟩:=rd
    dsimp only at o1
    split at o1
    · rename_i C' fs es'
      split at o1
      · rename_i hcn
        obtain ⟨rfl,hnm⟩:=hcn
        obtain ⟨a',h1,Ca,dx,vs,hC',ha',hfs⟩:=rs.at_ _ _ es'
        rw[hμ] at h1; cases h1
        rw[hC] at hC'; cases hC'
        obtain rfl:u=Value.ref a:=rx
        refine getmeth_ok I1 ha' c hm (fH hnm) ?_
        refine PySem.W.callWith_K (first:=[.ref a]) (h₀:=X.base) I.ok.mod.kin hm.kp (thn (ha.run pos pins s1 σ H1 _ I1 ⟨env,S1,μ1,⟨rl.env.step st,rs⟩,Out.bind o1⟩) fun us s2 ⟨ws,H2,I2,rw2,μ2,S2,ds,st2,rs2,rds,o2⟩=>⟨I2.kIn,?_⟩) hst hpl
        refine run_fnSD (us:=.ref a::us) (vs:=.ref a::ws) (E:=WE W) F.ok hr F.b .nil (passAt tk σ) I2 (.cons rfl rw2) ⟨_,S2,μ2,rs2,?_,mF o2⟩
        rw[List.append_nil]
        exact .cons (by unfold Rep; exact ⟨a,rfl,st2.get hμ⟩) rds
      · exact o1.elim
    · exact o1.elim
  | _=>exact o1.elim
theorem xo {pl:Sem Bool} (he:PE X o (tE X W ma)) (hC:X.mg cn=some (.ref C)) (c:Cls X.K C) (hm:Meth X.K C nm f) (F:FnM X.prog X.w X.K X.mg X.base k f fd ps m) (hr:Room k X.A) (tk:Takes X W)
    (ht:eval (.Call (.Attribute o nm apos) [] [] pos) X.env=(do
      let ov ←eval o X.env
      standAt apos.atName
      let (f,first) ←holding [ov] (getMethod ov nm pl)
      callWith pos f first (backTo pos (starEach [] X.env)) (backToKw pos (keywordEach [] X.env))):=by rfl) :
    PE X (.Call (.Attribute o nm apos) [] [] pos) (tE X W (dG cn nm ps.length m ma aJ)):=by
  refine ⟨fun pins s σ H Q I ⟨env,S,μ,rl,o⟩=>?_⟩
  refine PySem.W.methodCall_KW (pl:=pl) (thn (he.run pins s σ H _ I ⟨env,S,μ,rl,Out.bind o⟩) fun u s1 ⟨x,H1,I1,rx,μ1,S1,d,st,rs,rd,o1⟩=>?_) ht
  cases d with
  | loc l=>
    unfold Rep at rd
    obtain ⟨a,rfl,hμ⟩:=rd
    dsimp only at o1
    split at o1
    · rename_i C' fs es'
      split at o1
      · rename_i hcn
        obtain ⟨rfl,hnm⟩:=hcn
        obtain ⟨a',h1,Ca,dx,vs,hC',ha',hfs⟩:=rs.at_ _ _ es'
        rw[hμ] at h1; cases h1
        rw[hC] at hC'; cases hC'
        obtain rfl:u=Value.ref a:=rx
        refine getmeth_ok I1 ha' c hm (fH hnm) ?_
        refine PySem.W.callWith_K0 (first:=[.ref a]) I1.kIn hm.kp (run_fnSD (us:=[.ref a]) (vs:=[.ref a]) (E:=WE W) F.ok hr F.b .nil (passAt tk σ) I1 (.cons rfl .nil) ⟨[.loc l],S1,μ1,rs,.cons (by unfold Rep; exact ⟨a,rfl,hμ⟩) .nil,mF o1⟩)
      · exact o1.elim
    · exact o1.elim
  | _=>exact o1.elim
def mt (cn:Str) (n:Nat) (mi:MF) (r:MA):ME:=fun env S=>(r env S).bind fun ds S=>(chk n mi (.loc S.length::ds) (S++[.ins cn []])).bind fun d S'=>match d with
  | .none=>.ok (.loc S.length) S'
  | _=>.stuck
theorem wc {pins:List (Addr × Obj)} {σ:L2.St} {H:Hp} {s:Shared} {Q:VK} {us:List Value} {vs:List V} {CX:CXT} {sp:Sp} {dvs:List V} {ds:List Value} {E:XK} (M:Mk X.K C f) (F:FnOk X.prog X.w X.K X.mg X.base CX k f fd ps sp) (hr:Room (k+1) X.A) (hb:Binds X.K fd ps ds) (hd:Vals dvs ds)
    (hx:PassesAt CX X σ E) (I:L2.Inv X pins σ H s) (r:Vals vs us)
    (h:∀x dx,H x=none→H dx=none→dx≠x→sp (.ref x::(vs++dvs)) (upd (upd H dx (.own x)) x (.ins C dx [])) (fun v H2=>v=.non∧Q (.ref x) H2) E) :
    wpAny (model X.prog X.w) X.A (call (.ref C) us) (EP X pins σ Q) X.xe s:=by
  have hq:=h (s.heap.objs.size+1) s.heap.objs.size (I.hok.fresh (Nat.le_succ _)) (I.hok.fresh (Nat.le_refl _)) (Nat.ne_of_lt (Nat.lt_succ_self _))
  have I2:=Inv.made (C:=C) I
  have r2:Vals (V.ref (s.heap.objs.size+1)::(vs++dvs)) (Value.ref (s.heap.objs.size+1)::(us++ds)):=.cons rfl (r.append hd)
  have hl:(Value.ref (s.heap.objs.size+1)::us++ds).length=ps.length:=by
    have e:=r2.length
    rw[F.len _ _ _ _ hq] at e
    exact e.symm
  refine wpAny_call (make_map (f:=f) I.kIn M.makes M.init (beq_iff_eq.mp M.fn) (codeAny_mono (F.run _ X.stack _ _ ⟨Value.ref (s.heap.objs.size+1)::us,[]⟩ (Value.ref (s.heap.objs.size+1)::(us++ds)) _ _ E (hr.make C us [])
    (I2.env0.make C us []) (hb _ (Value.ref (s.heap.objs.size+1)::us) I2.kIn hl) r2 hq) fun r s' hq'=>?_))
  cases r with
  | error e=>exact hx pins _ _ e s' I2 hq'
  | ok fl=>
    cases fl with
    | ret u=>
      obtain ⟨v,H',I3,rv,ev,q3⟩:=I2.after hq'
      subst ev
      exact ⟨rv,⟨V.ref (s.heap.objs.size+1),H',I3,rfl,q3⟩⟩
    | next=>exact False.elim hq'
    | brk=>exact False.elim hq'
    | cont=>exact False.elim hq'
/-- a new instance in the store -/
theorem zl {K:PySem.W.Frag} {mg:Str→Option Value} {μ:Mu} {H:Hp} {S:Sto} {x dx:Addr} (rs:RelS K mg μ H S) (hC:mg cn=some (.ref C)) (hx:H x=none) (hd:H dx=none) (hne:dx≠x) :
    Step μ H (μ.push x) (upd (upd H dx (.own x)) x (.ins C dx []))∧RelS K mg (μ.push x) (upd (upd H dx (.own x)) x (.ins C dx [])) (S++[.ins cn []])∧Rep K mg (μ.push x) (upd (upd H dx (.own x)) x (.ins C dx [])) (.loc S.length) (.ref x):=by
  have s1:Step μ H μ (upd H dx (.own x)):=.of_sm (.upd hd)
  have r1:=rs.sm (Sm.upd (o:=.own x) hd)
  have hx':upd H dx (.own x) x=none:=by rw[upd_ne hne.symm]; exact hx
  obtain ⟨a,b,c⟩:=mB (ho:=.ins C dx []) (o:=.ins cn []) r1 hx' ⟨C,dx,[],hC,upd_same,.nil⟩
  exact ⟨s1.trans a,b,c⟩
theorem xp {K:PySem.W.Frag} {mg:Str→Option Value} {μ:Mu} {H:Hp} {W:WX} {σ:L2.St} {Q:VK} {r:Res D} {l:Nat} {x:Addr} (hl:μ.l[l]?=some x)
    (o:Out K mg W σ μ H (fun μ H a b=>Rep K mg μ H a b) Q (r.bind fun d S'=>match d with|.none=>.ok (.loc l) S'|_=>.stuck)):Out K mg W σ μ H (fun μ H a b=>Rep K mg μ H a b) (fun v H2=>v=.non∧Q (.ref x) H2) r:=by
  cases r with
  | ok d S=>
    cases d with
    | none=>
      intro μ' H' v st rs r
      have r:Rep K mg μ' H' .none v:=r
      unfold Rep at r
      exact ⟨r,o μ' H' (.ref x) st rs (by unfold Rep; exact ⟨x,rfl,st.get hl⟩)⟩
    | _=>exact o.elim
  | exc e S=>exact o
  | stuck=>exact o
theorem zm (hC:X.mg cn=some (.ref C)) (M:Mk X.K C f) (F:FnM X.prog X.w X.K X.mg X.base k f fd ps mi) (hr:Room (k+1) X.A) (hg:Gl X cn) (tk:Takes X W) (ha:PA X (e::es) (tAs X W r)) (hdb:(cn == ("__debug__":Str))=false:=by decide)
    (he:starEach (e::es) X.env=(false,eval e X.env)::starEach es X.env:=by rfl) (hpl:(backTo pos (starEach es X.env)).any (·.1)=false:=by rfl) :
    PE X (.Call (.Name cn p) (e::es) [] pos) (tE X W (mt cn ps.length mi r)):=by
  refine ⟨fun pins s σ H Q I ⟨env,S,μ,rl,o⟩=>?_⟩
  refine wpAny_Call_Name_kw (ld_glob I hg hC ?_ hdb)
  refine PySem.W.callWith_K (h₀:=X.base) I.ok.mod.kin M.kp (thn (ha.run pos pins s σ H _ I ⟨env,S,μ,rl,Out.bind o⟩) fun us s1 ⟨vs,H1,I1,r,μ1,S1,ds,st,rs,rd,o1⟩=>⟨I1.kIn,?_⟩) he hpl
  refine wc (E:=WE W σ) M F.ok hr F.b .nil (passAt tk σ) I1 r fun x dx hx hd hne=>?_
  obtain ⟨a,b,c⟩:=zl rs hC hx hd hne
  refine ⟨.loc S1.length::ds,_,_,b,?_,mF (xp ?_ (Out.of_step a o1))⟩
  · rw[List.append_nil]
    exact .cons c (RepAll.step a _ _ rd)
  · unfold Rep at c
    obtain ⟨x',e1,e2⟩:=c
    cases e1
    exact e2
def du (cn f:Str) (ma:ME):ME:=fun env S=>(ma env S).bind fun d S=>match d with
  | .loc l=>match S[l]? with
    | some (.ins C fs)=>if C=cn then ofO S (fs.lookup f) else .stuck
    | _=>.stuck
  | _=>.stuck
theorem mw {K:PySem.W.Frag} {mg:Str→Option Value} {μ:Mu} {H:Hp} {g:Str}:∀ {fs:List (Str × D)} {vs:List V} {d:D},RepAll K mg μ H (fs.map (·.2)) vs→fs.lookup g=some d→∃v,((fs.map (·.1)).zip vs).lookup g=some v∧Rep K mg μ H d v
  | [],vs,d,_,e=>by simp at e
  | (n,a)::fs,vs,d,r,e=>by
    have r:RepAll K mg μ H (a::fs.map (·.2)) vs:=r
    unfold RepAll at r
    obtain ⟨v,q,rfl,r1,r2⟩:=r
    rw[List.lookup_cons] at e
    rw[List.map_cons,List.zip_cons_cons,List.lookup_cons]
    cases h:g == n with
    | true=>rw[h] at e; cases e; exact ⟨v,by simp[h],r1⟩
    | false=>
      rw[h] at e
      obtain ⟨v,h1,h2⟩:=mw r2 e
      exact ⟨v,by simpa [h] using h1,h2⟩
theorem bp {g:Str} (he:PE X e (tE X W ma)) (hC:X.mg cn=some (.ref C)) (c:Cls X.K C) (n:NoAttr X.K C g) (hb:attributeBase e g X.env (eval e X.env)=eval e X.env:=by rfl):PE X (.Attribute e g pos) (tE X W (du cn g ma)):=
  cA (pe_fld he hb) fun σ H Q ⟨env,S,μ,rl,o⟩=>⟨env,S,μ,rl,(Out.bind o).mono fun x H1 ⟨μ1,S1,d,st,rs,rd,o1⟩=>by
    cases d with
    | loc l=>
      unfold Rep at rd
      obtain ⟨a,rfl,hμ⟩:=rd
      dsimp only at o1
      split at o1
      · rename_i C' fs es'
        split at o1
        · rename_i hcn
          subst hcn
          obtain ⟨a',h1,Ca,dx,vs,hC',ha',hfs⟩:=rs.at_ _ _ es'
          rw[hμ] at h1; cases h1
          rw[hC] at hC'; cases hC'
          cases el:fs.lookup g with
          | none=>rw[el] at o1; exact o1.elim
          | some d'=>
            rw[el] at o1
            obtain ⟨v,h3,h4⟩:=mw hfs el
            exact ⟨a,C,dx,_,v,rfl,ha',c,n,h3,o1 μ1 H1 v .refl rs h4⟩
        · exact o1.elim
      · exact o1.elim
    | _=>exact o1.elim⟩
def iK (f:Str) (v:D):List (Str × D)→List (Str × D)
  | []=>[(f,v)]
  | (g,x)::r=>if g=f then (g,v)::r else (g,x)::iK f v r
theorem rY {K:PySem.W.Frag} {mg:Str→Option Value} {μ:Mu} {H:Hp} {g:Str} {d:D} {v:V} (rd:Rep K mg μ H d v):∀ {fs:List (Str × D)} {vs:List V},RepAll K mg μ H (fs.map (·.2)) vs→
    ∃ws,putF g v ((fs.map (·.1)).zip vs)=((iK g d fs).map (·.1)).zip ws∧RepAll K mg μ H ((iK g d fs).map (·.2)) ws
  | [],vs,r=>⟨[v],by simp[putF,iK],.cons rd .nil⟩
  | (n,a)::fs,vs,r=>by
    have r:RepAll K mg μ H (a::fs.map (·.2)) vs:=r
    unfold RepAll at r
    obtain ⟨u,q,rfl,r1,r2⟩:=r
    rw[List.map_cons,List.zip_cons_cons]
    unfold putF iK
    by_cases h:n=g
    · rw[if_pos h,if_pos h]
      exact ⟨v::q,rfl,.cons rd r2⟩
    · rw[if_neg h,if_neg h]
      obtain ⟨ws,h1,h2⟩:=rY rd r2
      exact ⟨u::ws,by rw[h1]; rfl,.cons r1 h2⟩
def jn (cn f:Str) (ma mv:ME):MS:=fun env S=>(mv env S).rs env fun d S=>(ma env S).rs env fun o S=>match o with
  | .loc l=>match S[l]? with
    | some (.ins C fs)=>if C=cn∧fs.length<1000 then .next env (S.set l (.ins C (iK f d fs))) else .stuck
    | _=>.stuck
  | _=>.stuck
theorem zn {K:PySem.W.Frag} {mg:Str→Option Value} {μ:Mu} {H:Hp} {S:Sto} {l:Nat} {a C dx:Addr} {g:Str} {d:D} {v:V} {fs:List (Str × D)} {vs:List V} (rs:RelS K mg μ H S) (hC:mg cn=some (.ref C)) (hμ:μ.l[l]?=some a) (ha:H a=some (.ins C dx ((fs.map (·.1)).zip vs)))
    (r:RepAll K mg μ H (fs.map (·.2)) vs) (rd:Rep K mg μ H d v):Step μ H μ (upd H a (.ins C dx (putF g v ((fs.map (·.1)).zip vs))))∧RelS K mg μ (upd H a (.ins C dx (putF g v ((fs.map (·.1)).zip vs)))) (S.set l (.ins cn (iK g d fs))):=by
  have st:Step μ H μ (upd H a (.ins C dx (putF g v ((fs.map (·.1)).zip vs)))):=Step.write rs hμ (.of ha)
  refine ⟨st,rs.write hμ (.of ha) ?_⟩
  obtain ⟨ws,h1,h2⟩:=rY (g:=g) (Rep.step st _ _ rd) (RepAll.step st _ _ r)
  exact ⟨C,dx,ws,hC,by rw[upd_same,h1],h2⟩
theorem kg {g:Str} {value:Expr} {pos':Pos} (hv:PE X value (tE X W mv)) (ha:PE X o (tE X W ma)) (hC:X.mg cn=some (.ref C)) (c:Cls X.K C) (n:NoAttr X.K C g) (hs:swapsWith value (some (.Attribute o g pos')) pos.line X.env=pure false:=by rfl) :
    PS X (.Assign [.Attribute o g pos'] value pos) (tS X W (jn cn g ma mv)):=
  fZ (ps_fld ha hv hs) fun D' σ H ⟨env,S,μ,rl,o⟩=>⟨env,S,μ,rl,(OutS.rs rl.env o).mono fun y H1 ⟨μ1,S1,d,st,rs,rd,o1⟩=>⟨env,S1,μ1,⟨rl.env.step st,rs⟩,(OutS.rs (rl.env.step st) o1).mono fun x H2 ⟨μ2,S2,od,st2,rs2,ro,o2⟩=>by
    cases od with
    | loc l=>
      unfold Rep at ro
      obtain ⟨a,rfl,hμ⟩:=ro
      dsimp only at o2
      split at o2
      · rename_i C' fs es'
        split at o2
        · rename_i hcn
          obtain ⟨hcn,hlen⟩:=hcn
          subst hcn
          obtain ⟨a',h1,Ca,dx,vs,hC',ha',hfs⟩:=rs2.at_ _ _ es'
          rw[hμ] at h1; cases h1
          rw[hC] at hC'; cases hC'
          obtain ⟨sw,rw'⟩:=zn (g:=g) rs2 hC hμ ha' hfs (Rep.step st2 _ _ rd)
          refine ⟨a,C,dx,_,rfl,ha',c,n,?_,o2 μ2 _ σ sw (((rl.env.step st).step st2).step sw) rw'⟩
          have:=hfs.length
          simp only[List.length_map] at this
          simp[←this,hlen]
        · exact o2.elim
      · exact o2.elim
    | _=>exact o2.elim⟩⟩
end
end DL
namespace DL
open PySem PySem.Spec PyProof.Rows L2
abbrev BF:=Sto→List D→Option D
def rB (K:PySem.W.Frag) (mg:Str→Option Value) (f:BF):List V→Hp→VK→Prop:=fun xs H Q=>
  ∃μ S ds d,RelS K mg μ H S∧RepAll K mg μ H ds xs∧f S ds=some d∧∀H' v,Sm H H'→Rep K mg μ H' d v→Q v H'
def eB (f:BF) (r:MA):ME:=fun env S=>(r env S).bind fun ds S=>ofO S (f S ds)
section
variable {X:Cx} {W:WX} {e:Expr} {es:List Expr} {p pos:Pos} {r:MA} {f:BF} {x:Str} {id T:String}
theorem t_b {σ:L2.St} {H:Hp} {Q:VK} (h:tE X W (eB f r) σ H Q):tCB (rB X.K X.mg f) (tAs X W r) σ H Q:=by
  obtain ⟨env,S,μ,rl,o⟩:=h
  refine ⟨env,S,μ,rl,(Out.bind o).mono fun vs H1 ⟨μ1,S1,ds,st,rs,rd,o1⟩=>?_⟩
  cases e:f S1 ds with
  | none=>rw[e] at o1; exact o1.elim
  | some d=>rw[e] at o1; exact ⟨μ1,S1,ds,d,rs,rd,e,fun H' v sm r=>o1 μ1 H' v (.of_sm sm) (rs.sm sm) r⟩
theorem ax (hc:CallR X (.builtin id) (rB X.K X.mg f)) (hg:Gl X x) (hm:X.mg x=none) (hv:bootBuiltins x=some (.builtin id)) (ha:PA X (e::es) (tAs X W r)) (hn:x≠"__name__":=by decide) (hdb:(x == ("__debug__":Str))=false:=by decide)
    (he:starEach (e::es) X.env=(false,eval e X.env)::starEach es X.env:=by rfl) (hpl:(backTo pos (starEach es X.env)).any (·.1)=false:=by rfl):PE X (.Call (.Name x p) (e::es) [] pos) (tE X W (eB f r)):=
  cA (pe_callB hc hg hm hv ha hn hdb he hpl) fun _ _ _ h=>t_b h
theorem jB (hc:CallR X (.type T) (rB X.K X.mg f)) (hg:Gl X x) (hm:X.mg x=none) (hv:bootBuiltins x=some (.type T)) (ha:PA X (e::es) (tAs X W r)) (hn:x≠"__name__":=by decide) (hdb:(x == ("__debug__":Str))=false:=by decide)
    (he:starEach (e::es) X.env=(false,eval e X.env)::starEach es X.env:=by rfl) (hpl:(backTo pos (starEach es X.env)).any (·.1)=false:=by rfl):PE X (.Call (.Name x p) (e::es) [] pos) (tE X W (eB f r)):=
  cA (pe_callTy hc hg hm hv ha hn hdb he hpl) fun _ _ _ h=>t_b h
end
theorem fb {X:Cx} {f:Value} {r r':List V→Hp→VK→Prop} (h:CallR X f r) (i:∀xs H Q,r' xs H Q→r xs H Q):CallR X f r':=fun pins s σ H xs us Q I rx w=>h pins s σ H xs us Q I rx (i _ _ _ w)
def cx (S:Sto) (ds:List D):Option D:=match ds with
  | [d]=>match view S d with
    | .tup xs=>some (.int xs.length)
    | .lst xs=>some (.int xs.length)
    | .ro xs=>some (.int xs.length)
    | .str z=>if z.length≤1000000 then some (.int z.length) else none
    | .loc l=>match S[l]? with
      | some (.dct false kvs)=>some (.int kvs.length)
      | _=>none
    | _=>none
  | _=>none
theorem ir {κ:Type} {K:PySem.W.Frag} {mg:Str→Option Value} {μ:Mu} {H:Hp} {kvs:List (D × D)} {ks:List κ} {g:κ→D} {vs:List V} (e:kvs.map (·.1)=ks.map g) (r:RepAll K mg μ H (kvs.map (·.2)) vs):(ks.zip vs).length=kvs.length:=by
  have h1:=congrArg List.length e
  have h2:=r.length
  simp only[List.length_map] at h1 h2
  rw[List.length_zip,←h1,←h2,Nat.min_self]
section
variable {X:Cx}
theorem dH:CallR X (.builtin "len") (rB X.K X.mg cx):=by
  intro pins s σ H xs us Q I rx ⟨μ,S,ds,d,rs,ra,e,q⟩
  unfold cx at e
  split at e
  · rename_i d0
    obtain ⟨v,rfl,r1⟩:=b4 ra
    have rw0:=rs.view r1
    split at e
    · rename_i ys ev
      rw[ev] at rw0
      cases e
      obtain ⟨a,vs,rfl,h,l,_⟩:=rw0.tup
      exact call_len pins s σ H _ us Q I rx ⟨_,ys.length,rfl,.inr ⟨vs,.inl h,l.length⟩,q H _ .rfl (az _)⟩
    · rename_i ys ev
      rw[ev] at rw0
      cases e
      obtain ⟨a,vs,rfl,h,l⟩:=rw0
      exact call_len pins s σ H _ us Q I rx ⟨_,ys.length,rfl,.inl ⟨vs,.of h,l.length⟩,q H _ .rfl (az _)⟩
    · rename_i ys ev
      rw[ev] at rw0
      cases e
      have rw0:Rep X.K X.mg μ H (.ro ys) v:=rw0
      unfold Rep at rw0
      obtain ⟨a,vs,rfl,h,l⟩:=rw0
      exact call_len pins s σ H _ us Q I rx ⟨_,ys.length,rfl,.inl ⟨vs,h.sq,l.length⟩,q H _ .rfl (az _)⟩
    · rename_i z ev
      rw[ev] at rw0
      split at e
      · rename_i hz
        cases e
        have:=rw0.str
        subst this
        exact call_len pins s σ H _ us Q I rx ⟨_,z.length,rfl,⟨cp hz,rfl⟩,q H _ .rfl (az _)⟩
      · cases e
    · rename_i l ev
      rw[ev] at rw0
      have rw0:Rep X.K X.mg μ H (.loc l) v:=rw0
      unfold Rep at rw0
      obtain ⟨a,rfl,hμ⟩:=rw0
      split at e
      · rename_i kvs es
        cases e
        obtain ⟨a',h1,vs,ks,⟨h2,hk⟩,lr⟩:=rs.at_ _ _ es
        rw[hμ] at h1; cases h1
        exact call_lenD pins s σ H _ us Q I rx ⟨a,_,rfl,h2,by rw[ir hk lr]; exact q H _ .rfl (az _)⟩
      · cases e
    · cases e
  · cases e
end
def g4 (S:Sto):D→Option String
  | .none=>some "NoneType"
  | .bool _=>some "bool"
  | .int _=>some "int"
  | .str _=>some "str"
  | .tup _=>some "tuple"
  | .tpn _=>some "tuple"
  | .lst _=>some "list"
  | .loc l=>match S[l]? with
    | some (.lst _)=>some "list"
    | some (.dct _ _)=>some "dict"
    | _=>none
  | _=>none
def isTy (t n:String):Bool:=t == n||(t == "bool"&&n == "int")
def eT (n:String):Bool:=n == "int"||n == "bool"||n == "str"||n == "tuple"||n == "list"||n == "dict"
def vp:List D→Option (List String)
  | []=>some []
  | .ty n::cs=>if eT n then (vp cs).map (n::·) else none
  | _::_=>none
def cG (S:Sto) (ds:List D):Option D:=match ds with
  | [x,.ty n]=>match g4 S x with
    | some t=>if eT n then some (.bool (isTy t n)) else none
    | none=>none
  | [x,.tup cs]=>match g4 S x with
    | some t=>(vp cs).map fun ns=>.bool (ns.any (isTy t))
    | none=>none
  | _=>none
theorem vq:∀t∈["NoneType","bool","int","str","tuple","list","dict"],∀n∈["int","bool","str","tuple","list","dict"],kitB t n=some (isTy t n):=by decide +kernel
theorem oq {n:String} (h:eT n=true):n∈["int","bool","str","tuple","list","dict"]:=by
  unfold eT at h
  simp only[Bool.or_eq_true,beq_iff_eq] at h
  simp only[List.mem_cons,List.not_mem_nil,or_false]
  rcases h with ((((h|h)|h)|h)|h)|h<;>simp[h]
section
variable {K:PySem.W.Frag} {mg:Str→Option Value} {μ:Mu} {H:Hp} {S:Sto}
theorem vr (rs:RelS K mg μ H S) {x:D} {v:V} {t:String} (r:Rep K mg μ H x v) (e:g4 S x=some t):TyX K H v (.type t)∧t∈["NoneType","bool","int","str","tuple","list","dict"]:=by
  cases x with
  | none=>cases e; unfold Rep at r; subst r; exact ⟨.base .non,by decide⟩
  | bool b=>cases e; unfold Rep at r; subst r; exact ⟨.base (.bl _),by decide⟩
  | int b=>cases e; unfold Rep at r; subst r; exact ⟨.base (.int _),by decide⟩
  | str b=>cases e; unfold Rep at r; subst r; exact ⟨.base (.str _),by decide⟩
  | tup b=>cases e; unfold Rep at r; obtain ⟨a,vs,rfl,h,_⟩:=r; exact ⟨.base (.tup h),by decide⟩
  | tpn b=>cases e; unfold Rep at r; obtain ⟨a,vs,o,rfl,⟨h,_⟩,_⟩:=r; exact ⟨.fTuple h,by decide⟩
  | lst b=>cases e; unfold Rep at r; obtain ⟨a,vs,rfl,h,_⟩:=r; exact ⟨.base (.lst h),by decide⟩
  | loc l=>
    unfold Rep at r
    obtain ⟨a,rfl,hμ⟩:=r
    have e:(match S[l]? with|some (.lst _)=>some "list"|some (.dct _ _)=>some "dict"|_=>none)=some t:=e
    split at e
    · rename_i xs es
      cases e
      obtain ⟨a',h1,vs,h2,_⟩:=rs.at_ _ _ es
      rw[hμ] at h1; cases h1
      exact ⟨.base (.lst h2),by decide⟩
    · rename_i t kvs es
      cases e
      obtain ⟨a',h1,ro⟩:=rs.at_ _ _ es
      rw[hμ] at h1; cases h1
      cases t with
      | false=>obtain ⟨vs,ks,⟨h2,_⟩,_⟩:=ro; exact ⟨.base (.dK h2),by decide⟩
      | true=>obtain ⟨vs,ks,⟨h2,_⟩,_⟩:=ro; exact ⟨.base (.dT h2),by decide⟩
    · cases e
  | _=>cases e
theorem rZ {t:String} (ht:t∈["NoneType","bool","int","str","tuple","list","dict"]):∀ {cs:List D} {vs:List V} {ns:List String},RepAll K mg μ H cs vs→vp cs=some ns→∃us,Paired ClsV vs us∧PySem.W.kitAny K (.type t) us=some (ns.any (isTy t))
  | [],vs,ns,r,e=>by
    unfold RepAll at r; subst r
    cases e
    exact ⟨[],.nil,rfl⟩
  | c::cs,vs,ns,r,e=>by
    unfold RepAll at r
    obtain ⟨v,q,rfl,r1,r2⟩:=r
    cases c with
    | ty n=>
      unfold Rep at r1; subst r1
      unfold vp at e
      split at e
      · rename_i hk
        obtain ⟨ns',h1,rfl⟩:=Option.map_eq_some_iff.mp e
        have hkit:=kit_ty (K:=K) (vq t ht n (oq hk))
        obtain ⟨us,h2,h3⟩:=rZ ht r2 h1
        refine ⟨.type n::us,.cons (.ty n) h2,kitAny_cons hkit (fun h=>?_) fun h=>?_⟩
        · rw[List.any_cons,h,Bool.false_or]; exact h3
        · rw[List.any_cons,h,Bool.true_or]
      · cases e
    | _=>cases e
end
section
variable {X:Cx}
theorem eg:CallR X (.builtin "isinstance") (rB X.K X.mg cG):=by
  intro pins s σ H xs us Q I rx ⟨μ,S,ds,d,rs,ra,e,q⟩
  unfold cG at e
  split at e
  · rename_i x0 n
    obtain ⟨v,w,rfl,r1,r2⟩:=gM ra
    split at e
    · rename_i t et
      split at e
      · rename_i hk
        cases e
        obtain ⟨h1,h2⟩:=vr rs r1 et
        unfold Rep at r2; subst r2
        exact call_isi pins s σ H _ us Q I rx ⟨v,.ty n,.type t,.type n,_,rfl,.ty n,h1,kit_ty (vq t h2 n (oq hk)),q H _ .rfl (cR _)⟩
      · cases e
    · cases e
  · rename_i x0 cs
    obtain ⟨v,w,rfl,r1,r2⟩:=gM ra
    split at e
    · rename_i t et
      obtain ⟨ns,h3,rfl⟩:=Option.map_eq_some_iff.mp e
      obtain ⟨h1,h2⟩:=vr rs r1 et
      unfold Rep at r2
      obtain ⟨tp,vs,rfl,htp,_,rcs⟩:=r2
      obtain ⟨ts,h4,h5⟩:=rZ h2 rcs h3
      exact call_isiT pins s σ H _ us Q I rx ⟨v,tp,vs,.type t,ts,_,rfl,htp,h4,h1,h5,q H _ .rfl (cR _)⟩
    · cases e
  · cases e
def qL (_:Sto) (ds:List D):Option D:=match ds with
  | [.int i]=>some (.int i)
  | [.bool b]=>some (.int (if b then 1 else 0))
  | _=>none
theorem c_int:CallR X (.type "int") (rB X.K X.mg qL):=fb call_int1 fun xs H Q ⟨μ,S,ds,d,rs,ra,e,q⟩=>by
  unfold qL at e
  split at e
  · cases e
    obtain ⟨v,rfl,r1⟩:=b4 ra
    unfold Rep at r1; subst r1
    exact .inl ⟨_,rfl,q H _ .rfl (az _)⟩
  · cases e
    obtain ⟨v,rfl,r1⟩:=b4 ra
    unfold Rep at r1; subst r1
    exact .inr ⟨_,rfl,q H _ .rfl (az _)⟩
  · cases e
def fMax2 (_:Sto) (ds:List D):Option D:=match ds with
  | [.int i,.int j]=>some (.int (if j>i then j else i))
  | _=>none
def ot (_:Sto) (ds:List D):Option D:=match ds with
  | [.int i,.int j]=>some (.int (if j<i then j else i))
  | _=>none
theorem xq (hc:X.calm=true):CallR X (.builtin "min") (rB X.K X.mg ot):=fb (call_min2 hc) fun xs H Q ⟨μ,S,ds,d,rs,ra,e,q⟩=>by
  unfold ot at e
  split at e
  · cases e
    obtain ⟨v,w,rfl,r1,r2⟩:=gM ra
    unfold Rep at r1 r2; subst r1 r2
    exact ⟨_,_,rfl,q H _ .rfl (az _)⟩
  · cases e
def qM:List D→Option (List Int)
  | []=>some []
  | .int i::ds=>(qM ds).map (i::·)
  | _::_=>none
def gO:List D→Option (List Bool)
  | []=>some []
  | .bool i::ds=>(gO ds).map (i::·)
  | _::_=>none
theorem ou {K:PySem.W.Frag} {mg:Str→Option Value} {μ:Mu} {H:Hp}:∀ {ds:List D} {vs:List V} {ns:List Bool},RepAll K mg μ H ds vs→gO ds=some ns→vs=ns.map V.bl
  | [],vs,ns,r,e=>by unfold RepAll at r; cases e; exact r
  | d::ds,vs,ns,r,e=>by
    unfold RepAll at r
    obtain ⟨v,q,rfl,r1,r2⟩:=r
    cases d with
    | bool i=>
      unfold gO at e
      obtain ⟨ms,h1,rfl⟩:=Option.map_eq_some_iff.mp e
      unfold Rep at r1
      rw[r1,ou r2 h1]; rfl
    | _=>cases e
def fSum (S:Sto) (ds:List D):Option D:=match ds with
  | [d]=>match view S d with
    | .lst xs=>(qM xs).map fun ns=>.int ns.sum
    | _=>none
  | _=>none
def kh (S:Sto) (ds:List D):Option D:=match ds with
  | [d]=>match view S d with
    | .lst xs=>(gO xs).map fun ns=>.bool (ns.all id)
    | _=>none
  | _=>none
theorem rf (hc:X.calm=true):CallR X (.builtin "all") (rB X.K X.mg kh):=fb (cr_all hc) fun xs H Q ⟨μ,S,ds,d,rs,ra,e,q⟩=>by
  unfold kh at e
  split at e
  · obtain ⟨v,rfl,r1⟩:=b4 ra
    have rw0:=rs.view r1
    split at e
    · rename_i ys ev
      rw[ev] at rw0
      obtain ⟨ns,h1,rfl⟩:=Option.map_eq_some_iff.mp e
      obtain ⟨a,vs,rfl,h,l⟩:=rw0
      exact ⟨a,ns,rfl,by rw[←ou l h1]; exact .of h,q H _ .rfl (cR _)⟩
    · cases e
  · cases e
def jo (S:Sto) (ds:List D):Option D:=match ds with
  | [.tup xs]=>some (.tup xs)
  | [.tpn xs]=>some (.tpn xs)
  | [d]=>match view0 S d with
    | .lst xs=>some (.tpn xs)
    | _=>none
  | _=>none
/-- tuple(a list): what it makes has no dict -/
theorem mx:CallR X (.type "tuple") (fun xs H Q=>∃p ys,xs=[.ref p]∧((SqL X.K H p ys∧∀l o,H l=none→o.dict=none→Q (.ref l) (upd H l (.frz o (.tup ys))))∨(SqT X.K H p ys∧Q (.ref p) H))):=by
  intro pins s σ H xs us Q I r h
  obtain ⟨p,ys,rfl,h⟩:=h
  rcases h with ⟨hq,q⟩|⟨hq,q⟩
  · obtain ⟨u,rfl,rx⟩:=vals1 r
    cases rx
    obtain ⟨its,r',pl,hz⟩:=I.list hq
    have hlen:=r'.length
    refine call_tuple_list pl.isList (fun h' kp=>?_) (by simp only[List.size_toArray]<;>omega)
    have I1:L2.Inv X pins σ H { s with heap:=h' }:=I.kept (t':=s.toks) kp
    have I2:L2.Inv X pins σ (upd H h'.objs.size (.frz { cls:=.type "tuple",data:=.seq its.toArray } (.tup ys))) { s with heap:=h'.push { cls:=.type "tuple",data:=.seq its.toArray } }:=
      I1.laid (t':=s.toks) (fun b o e=>Heap.get?_push_of_some _ e) (Nat.le_refl _) (show ObjOk X.prog X.w _ _ _ (.frz _ (.tup ys)) from ⟨Heap.get?_push_size _ rfl,hz,its,r',IsTup.new _ _⟩)
    exact ⟨.ref h'.objs.size,_,I2,rfl,q _ _ (I1.hok.fresh (Nat.le_refl _)) rfl⟩
  · exact call_tuple_of pins s σ H _ us Q I r ⟨p,ys,rfl,.inr ⟨hq,q⟩⟩
theorem rg {K:PySem.W.Frag} {mg:Str→Option Value} {μ:Mu} {H:Hp} {S:Sto} (rs:RelS K mg μ H S) {p:Addr} {o:Obj} (hp:H p=none) (ho:o.dict=none) {ds:List D} {vs:List V} (l:RepAll K mg μ H ds vs) :
    Rep K mg μ (upd H p (.frz o (.tup vs))) (.tpn ds) (.ref p):=by
  unfold Rep
  exact ⟨p,vs,o,rfl,⟨upd_same,ho⟩,rs.fresh hp,RepAll.step (.of_sm (.upd hp)) _ _ l⟩
theorem my:CallR X (.type "tuple") (rB X.K X.mg jo):=fb mx fun xs H Q ⟨μ,S,ds,d,rs,ra,e,q⟩=>by
  unfold jo at e
  split at e
  · obtain ⟨v,rfl,r1⟩:=b4 ra
    cases e
    have r2:=r1
    unfold Rep at r2
    obtain ⟨a,vs,rfl,h,n,l⟩:=r2
    exact ⟨a,vs,rfl,.inr ⟨.of h,q H _ .rfl r1⟩⟩
  · obtain ⟨v,rfl,r1⟩:=b4 ra
    cases e
    have r2:=r1
    unfold Rep at r2
    obtain ⟨a,vs,o,rfl,⟨h,_⟩,n,l⟩:=r2
    exact ⟨a,vs,rfl,.inr ⟨.inl (.inr ⟨o,h⟩),q H _ .rfl r1⟩⟩
  · obtain ⟨v,rfl,r1⟩:=b4 ra
    have rw0:=rs.view0 r1
    split at e
    · rename_i ys ev
      rw[ev] at rw0
      cases e
      obtain ⟨a,vs,rfl,h,l⟩:=rw0
      exact ⟨a,vs,rfl,.inl ⟨.of h,fun p o hp ho=>q _ _ (.upd hp) (rg rs hp ho l)⟩⟩
    · cases e
  · cases e
def ow (S:Sto) (ds:List D):Option D:=match ds with
  | [d]=>match view S d with
    | .lst xs=>some (.lst xs)
    | .tup xs=>some (.lst xs)
    | _=>none
  | _=>none
theorem xr:CallR X (.type "list") (rB X.K X.mg ow):=fb call_list_of fun xs H Q ⟨μ,S,ds,d,rs,ra,e,q⟩=>by
  unfold ow at e
  split at e
  · obtain ⟨v,rfl,r1⟩:=b4 ra
    have rw0:=rs.view r1
    split at e
    · rename_i ys ev
      rw[ev] at rw0
      cases e
      obtain ⟨a,vs,rfl,h,l⟩:=rw0
      exact ⟨a,vs,rfl,.inl (.of h),fun p hp=>q _ _ (.upd hp) (bt rs hp l)⟩
    · rename_i ys ev
      rw[ev] at rw0
      cases e
      obtain ⟨a,vs,rfl,h,l,n⟩:=rw0.tup
      exact ⟨a,vs,rfl,.inr (.inl h),fun p hp=>q _ _ (.upd hp) (bt rs hp l)⟩
    · cases e
  · cases e
end
abbrev BM:=Sto→D→List D→Option (D × Sto)
def rM (K:PySem.W.Frag) (mg:Str→Option Value) (f:BM):V→List V→Hp→VK→Prop:=fun x xs H Q=>
  ∃μ S d ds r S',RelS K mg μ H S∧Rep K mg μ H d x∧RepAll K mg μ H ds xs∧f S d ds=some (r,S')∧∀μ' H' v,Step μ H μ' H'→RelS K mg μ' H' S'→Rep K mg μ' H' r v→Q v H'
def eM (ok:Sto→D→Bool) (f:BM) (ma:ME) (r:MA):ME:=fun env S=>(ma env S).bind fun d S=>if ok S d then (r env S).bind fun ds S=>match f S d ds with
  | some p=>.ok p.1 p.2
  | none=>.stuck else .stuck
def bX (S:Sto) (d:D):Bool:=match view S d with
  | .lst _=>true
  | _=>false
def uY (_:Sto) (d:D):Bool:=match d with
  | .str _=>true
  | _=>false
section
variable {X:Cx} {W:WX} {o e:Expr} {es:List Expr} {apos cpos:Pos} {ma:ME} {r:MA} {f:BM} {ok:Sto→D→Bool} {T id:String} {name:Str}
theorem eE {K:PySem.W.Frag} {mg:Str→Option Value} {μ:Mu} {H:Hp} {S:Sto} {d:D} {x:V} (rs:RelS K mg μ H S) (r:Rep K mg μ H d x) (h:bX S d=true):tyV K "list" x H:=by
  unfold bX at h
  have w:=rs.view r
  split at h
  · rename_i xs ev
    rw[ev] at w
    obtain ⟨a,vs,rfl,h,_⟩:=w
    exact .inl ⟨rfl,vs,.of h⟩
  · cases h
theorem ty_str {K:PySem.W.Frag} {mg:Str→Option Value} {μ:Mu} {H:Hp} {S:Sto} {d:D} {x:V} (rs:RelS K mg μ H S) (r:Rep K mg μ H d x) (h:uY S d=true):tyV K "str" x H:=by
  unfold uY at h
  split at h
  · unfold Rep at r; subst r; rfl
  · cases h
theorem ki (hok:∀ {μ:Mu} {H:Hp} {S:Sto} {d:D} {x:V},RelS X.K X.mg μ H S→Rep X.K X.mg μ H d x→ok S d=true→tyV X.K T x H) (pa:PlainAttrs T) (slot:Slot T name id) (hty:typeOf (.builtin id)=pure (.type "method_descriptor")) (hm:MtR X id (rM X.K X.mg f)) (ho:PE X o (tE X W ma)) (ha:PA X (e::es) (tAs X W r))
    (hbase:attributeBase o name X.env (eval o X.env)=eval o X.env:=by rfl)
    (hfew:((backTo cpos (starEach (e::es) X.env)).all (fun x=>!x.1)&&(backToKw cpos (keywordEach [] X.env)).all (fun x=>x.1.isSome)
      && decide ((e::es).length+([]:List Keyword).length+(if ([]:List Keyword).isEmpty then 0 else 1)<30))=true:=by rfl)
    (hline:(apos.endLine == cpos.line)=true:=by rfl) (hs:starEach (e::es) X.env=(false,eval e X.env)::starEach es X.env:=by rfl) (hplain:(backTo cpos (starEach es X.env)).any (·.1)=false:=by rfl) :
    PE X (.Call (.Attribute o name apos) (e::es) [] cpos) (tE X W (eM ok f ma r)):=
  cA (pe_bm pa slot hty hm ho ha hbase hfew hline hs hplain) fun σ H Q ⟨env,S,μ,rl,o⟩=>⟨env,S,μ,rl,(Out.bind o).mono fun x H1 ⟨μ1,S1,d,st,rs,rd,o1⟩=>by
    split at o1
    · rename_i hk
      refine ⟨hok rs rd hk,env,S1,μ1,⟨rl.env.step st,rs⟩,(Out.bind o1).mono fun xs H2 ⟨μ2,S2,ds,st2,rs2,rds,o2⟩=>?_⟩
      cases ef:f S2 d ds with
      | none=>rw[ef] at o2; exact o2.elim
      | some p=>rw[ef] at o2; exact ⟨μ2,S2,d,ds,p.1,p.2,rs2,Rep.step st2 _ _ rd,rds,ef,o2⟩
    · exact o1.elim⟩
theorem sE_m0 (hok:∀ {μ:Mu} {H:Hp} {S:Sto} {d:D} {x:V},RelS X.K X.mg μ H S→Rep X.K X.mg μ H d x→ok S d=true→tyV X.K T x H) (pa:PlainAttrs T) (slot:Slot T name id) (hty:typeOf (.builtin id)=pure (.type "method_descriptor")) (hm:MtR X id (rM X.K X.mg f)) (ho:PE X o (tE X W ma))
    (hbase:attributeBase o name X.env (eval o X.env)=eval o X.env:=by rfl) (hline:(apos.endLine == cpos.line)=true:=by rfl):PE X (.Call (.Attribute o name apos) [] [] cpos) (tE X W (eM ok f ma aJ)):=
  cA (pe_bm0 pa slot hty hm ho hbase hline) fun σ H Q ⟨env,S,μ,rl,o⟩=>⟨env,S,μ,rl,(Out.bind o).mono fun x H1 ⟨μ1,S1,d,st,rs,rd,o1⟩=>by
    split at o1
    · rename_i hk
      refine ⟨hok rs rd hk,?_⟩
      simp only[aJ,Res.bind] at o1
      cases ef:f S1 d [] with
      | none=>rw[ef] at o1; exact o1.elim
      | some p=>rw[ef] at o1; exact ⟨μ1,S1,d,[],p.1,p.2,rs,rd,.nil,ef,o1⟩
    · exact o1.elim⟩
theorem m5 {r r':V→List V→Hp→VK→Prop} (h:MtR X id r) (i:∀x xs H Q,r' x xs H Q→r x xs H Q):MtR X id r':=fun pins s σ H x xs v us Q I rx rxs w=>h pins s σ H x xs v us Q I rx rxs (i _ _ _ _ w)
/-- xs.append(d) -/
def bD:BM:=fun S d ds=>match d,ds with
  | .loc l,[a]=>match S[l]? with
    | some (.lst xs)=>if xs.length<1000000 then some (.none,S.set l (.lst (xs++[a]))) else none
    | _=>none
  | _,_=>none
theorem dI:MtR X "list.append" (rM X.K X.mg bD):=m5 mt_append fun x xs H Q ⟨μ,S,d,ds,r,S',rs,rd,rds,e,q⟩=>by
  unfold bD at e
  split at e
  · rename_i l a
    unfold Rep at rd
    obtain ⟨ad,rfl,hμ⟩:=rd
    obtain ⟨v,rfl,rv⟩:=b4 rds
    split at e
    · rename_i ys es
      split at e
      · rename_i hl
        cases e
        obtain ⟨a',h1,vs,h2,h3⟩:=rs.at_ _ _ es
        rw[hμ] at h1; cases h1
        have st:Step μ H μ (upd H ad (.lst (vs++[v]))):=Step.write rs hμ (.of h2)
        refine ⟨ad,vs,v,rfl,rfl,h2,by rw[←h3.length,sizeLine_eq]; omega,q μ _ .non st (rs.write hμ (.of h2) ⟨_,upd_same,RepAll.step st _ _ (h3.append (.cons rv .nil))⟩) mS⟩
      · cases e
    · cases e
  · cases e
/-- xs.pop() -/
def bPop:BM:=fun S d ds=>match d,ds with
  | .loc l,[]=>match S[l]? with
    | some (.lst xs)=>match xs[xs.length - 1]? with
      | some a=>some (a,S.set l (.lst xs.dropLast))
      | none=>none
    | _=>none
  | _,_=>none
end
end DL
namespace DL
open PySem PySem.Spec PyProof.Rows L2
def g5 (t:Bool) (kvs:List (D × D)) (k v:D):List (D × D):=
  if (kvs.any fun p=>keq t p.1 k)=true then kvs.map (fun p=>if keq t p.1 k=true then (p.1,v) else p) else kvs++[(k,v)]
theorem jp {κ:Type} [DecidableEq κ] {f:κ→D} {g:D→D→Bool} (hg:∀a b,g (f a) (f b)=decide (a=b)) {K:PySem.W.Frag} {mg:Str→Option Value} {μ:Mu} {H:Hp} (k:κ) {d:D} {v:V} (rd:Rep K mg μ H d v) {kvs:List (D × D)} {ks:List κ} {vs:List V} (e:kvs.map (·.1)=ks.map f) (r:RepAll K mg μ H (kvs.map (·.2)) vs) :
    ∃(ks':List κ) (vs':List V),putK (ks.zip vs) k v=ks'.zip vs'∧(if (kvs.any fun p=>g p.1 (f k))=true then kvs.map (fun p=>if g p.1 (f k)=true then (p.1,d) else p) else kvs++[(f k,d)]).map (·.1)=ks'.map f∧
      RepAll K mg μ H ((if (kvs.any fun p=>g p.1 (f k))=true then kvs.map (fun p=>if g p.1 (f k)=true then (p.1,d) else p) else kvs++[(f k,d)]).map (·.2)) vs':=by
  have any:∀ {kvs:List (D × D)} {ks:List κ} {vs:List V},kvs.map (·.1)=ks.map f→RepAll K mg μ H (kvs.map (·.2)) vs→(kvs.any fun p=>g p.1 (f k))=((ks.zip vs).any fun p=>decide (p.1=k)):=by
    intro kvs
    induction kvs with
    | nil=>
      intro ks vs e r
      have:ks=[]:=by cases ks with|nil=>rfl|cons a b=>cases e
      subst this; rfl
    | cons p kvs ih=>
      intro ks vs e r
      cases ks with
      | nil=>cases e
      | cons k' ks=>
        have r:RepAll K mg μ H (p.2::kvs.map (·.2)) vs:=r
        unfold RepAll at r
        obtain ⟨v,q,rfl,r1,r2⟩:=r
        injection e with e1 e2
        rw[List.zip_cons_cons,List.any_cons,List.any_cons,ih e2 r2]
        have e1:p.1=f k':=e1
        rw[e1,hg]
  have mp:∀ {kvs:List (D × D)} {ks:List κ} {vs:List V},kvs.map (·.1)=ks.map f→RepAll K mg μ H (kvs.map (·.2)) vs→
      ∃vs':List V,(ks.zip vs).map (fun p=>if p.1=k then (p.1,v) else p)=ks.zip vs'∧(kvs.map fun p=>if g p.1 (f k)=true then (p.1,d) else p).map (·.1)=ks.map f∧RepAll K mg μ H ((kvs.map fun p=>if g p.1 (f k)=true then (p.1,d) else p).map (·.2)) vs':=by
    intro kvs
    induction kvs with
    | nil=>
      intro ks vs e r
      have:ks=[]:=by cases ks with|nil=>rfl|cons a b=>cases e
      subst this; exact ⟨[],rfl,rfl,.nil⟩
    | cons p kvs ih=>
      intro ks vs e r
      cases ks with
      | nil=>cases e
      | cons k' ks=>
        have r:RepAll K mg μ H (p.2::kvs.map (·.2)) vs:=r
        unfold RepAll at r
        obtain ⟨w,q,rfl,r1,r2⟩:=r
        injection e with e1 e2
        have e1:p.1=f k':=e1
        obtain ⟨vs',h1,h2,h3⟩:=ih e2 r2
        have hgk:g p.1 (f k)=decide (k'=k):=by rw[e1,hg]
        have hf1:(if g p.1 (f k)=true then (p.1,d) else p).1=f k':=by split<;>exact e1
        by_cases hk:k'=k
        · refine ⟨v::vs',?_,?_,?_⟩
          · rw[List.zip_cons_cons,List.map_cons,h1,List.zip_cons_cons]; simp[hk]
          · rw[List.map_cons,List.map_cons,h2,List.map_cons,hf1]
          · rw[List.map_cons,List.map_cons]
            simp only[hgk,hk,decide_true,if_true]
            exact .cons rd h3
        · refine ⟨w::vs',?_,?_,?_⟩
          · rw[List.zip_cons_cons,List.map_cons,h1,List.zip_cons_cons]; simp[hk]
          · rw[List.map_cons,List.map_cons,h2,List.map_cons,hf1]
          · rw[List.map_cons,List.map_cons]
            simp only[hgk,hk,decide_false,Bool.false_eq_true,if_false]
            exact .cons r1 h3
  have ha:=any e r
  unfold putK
  rw[ha]
  by_cases hb:((ks.zip vs).any fun p=>decide (p.1=k))=true
  · rw[if_pos hb,if_pos hb]
    obtain ⟨vs',h1,h2,h3⟩:=mp e r
    exact ⟨ks,vs',h1,h2,h3⟩
  · rw[if_neg hb,if_neg hb]
    have hl:ks.length=vs.length:=by
      have h1:=congrArg List.length e
      have h2:=r.length
      simp only[List.length_map] at h1 h2
      omega
    refine ⟨ks++[k],vs++[v],by rw[List.zip_append hl]; rfl,by simp[e],?_⟩
    rw[List.map_append]
    exact r.append (.cons rd .nil)
theorem put_ok {K:PySem.W.Frag} {mg:Str→Option Value} {μ:Mu} {H:Hp} {t:Bool} {kvs:List (D × D)} {a:Addr} {k d:D} {y v:V} (h:RepO K mg μ H (.dct t kvs) a) (hk:cg t k=true) (rk:Rep K mg μ H k y) (rd:Rep K mg μ H d v) (hl:kvs.length<1000000) :
    ∃ho,DPut H a y v (upd H a ho)∧∀ {μ':Mu},Step μ H μ' (upd H a ho)→RepO K mg μ' (upd H a ho) (.dct t (g5 t kvs k d)) a:=by
  cases t with
  | false=>
    obtain ⟨vs,ks,⟨e,q⟩,rs⟩:=h
    obtain ⟨kk,rfl⟩:=rH hk
    rw[ip rk]
    obtain ⟨ks',vs',h1,h2,h3⟩:=jp rG kk rd q rs
    have hz:(ks.zip vs).length<sizeLine:=by rw[ir q rs,sizeLine_eq]; omega
    refine ⟨_,.k e hz,fun st=>?_⟩
    rw[h1] at *
    exact ⟨vs',ks',⟨upd_same,h2⟩,RepAll.step st _ _ h3⟩
  | true=>
    obtain ⟨vs,ks,⟨e,q⟩,rs⟩:=h
    obtain ⟨kk,rfl⟩:=vg hk
    obtain ⟨b,rfl,hb⟩:=jh rk
    obtain ⟨ks',vs',h1,h2,h3⟩:=jp vf kk rd q rs
    have hz:(ks.zip vs).length<sizeLine:=by rw[ir q rs,sizeLine_eq]; omega
    refine ⟨_,.t e hb hz,fun st=>?_⟩
    rw[h1] at *
    exact ⟨vs',ks',⟨upd_same,h2⟩,RepAll.step st _ _ h3⟩
def bY (S:Sto) (o i v:D):Option Sto:=match o with
  | .loc l=>match S[l]? with
    | some (.lst xs)=>match i with
      | .int k=>match ixN xs.length k with
        | some j=>some (S.set l (.lst (xs.set j v)))
        | none=>none
      | _=>none
    | some (.dct t kvs)=>if cg t i=true∧kvs.length<1000000 then some (S.set l (.dct t (g5 t kvs i v))) else none
    | _=>none
  | _=>none
def rPut (K:PySem.W.Frag) (mg:Str→Option Value):TSet:=fun o i v H Q=>∃μ S od id vd S',RelS K mg μ H S∧Rep K mg μ H od o∧Rep K mg μ H id i∧Rep K mg μ H vd v∧bY S od id vd=some S'∧∀μ' H',Step μ H μ' H'→RelS K mg μ' H' S'→Q H'
section
variable {X:Cx} {W:WX}
theorem zo (hu:X.A.units+1<cLine):PSet X (rPut X.K X.mg):=by
  intro pins s σ H o i v ov iv u Q I ro ri rv ⟨μ,S,od,id,vd,S',rs,rod,rid,rvd,e,q⟩
  unfold bY at e
  split at e
  · rename_i l
    unfold Rep at rod
    obtain ⟨a,rfl,hμ⟩:=rod
    split at e
    · rename_i xs es
      obtain ⟨a',h1,vs,h2,h3⟩:=rs.at_ _ _ es
      rw[hμ] at h1; cases h1
      split at e
      · rename_i k
        unfold Rep at rid
        subst rid
        split at e
        · rename_i j ej
          cases e
          have st:Step μ H μ (upd H a (.lst (vs.set j v))):=Step.write rs hμ (.of h2)
          exact set_list pins s σ H _ _ _ ov iv u Q I ro ri rv ⟨a,vs,k,j,rfl,rfl,h2,by rw[←h3.length]; exact ej,q μ _ st (rs.write hμ (.of h2) ⟨_,upd_same,RepAll.step st _ _ (h3.set rvd j)⟩)⟩
        · cases e
      · cases e
    · rename_i t kvs es
      split at e
      · rename_i hk
        cases e
        obtain ⟨a',h1,h2⟩:=rs.at_ _ _ es
        rw[hμ] at h1; cases h1
        obtain ⟨ho,hp,hr⟩:=put_ok h2 hk.1 rid rvd hk.2
        have nf:NF H a:=by
          cases t<;>(obtain ⟨vs,ks,⟨q,_⟩,_⟩:=h2; exact .of q)
        have st:Step μ H μ (upd H a ho):=Step.write rs hμ nf
        exact set_dict hu pins s σ H _ _ _ ov iv u Q I ro ri rv ⟨a,_,rfl,hp,q μ _ st (rs.write hμ nf (hr st))⟩
      · cases e
    · cases e
  · cases e
def gQ (mo mi:ME):MG:=fun v env S=>match mo env S with
  | .ok o S=>match mi env S with
    | .ok i S=>(bY S o i v).map fun S=>(env,S)
    | _=>none
  | _=>none
theorem fe {o i:Expr} {mo mi:ME} {pos:Pos} (hu:X.A.units+1<cLine) (ho:PE X o (tE X (fun _ _ _ _=>False) mo)) (hi:PE X i (tE X (fun _ _ _ _=>False) mi))
    (ha:∀v,assign (.Subscript o i pos) X.env v=(do
      let ov ←holding [v] (eval o X.env)
      let iv ←holding [v,ov] (eval i X.env)
      standAt pos
      holding [v,ov,iv] (setItem ov iv v)
      release [v,ov,iv] []):=by intro v; rfl):PG X (.Subscript o i pos) (tG X (gQ mo mi)):=
  rO (pg_sub ho hi (zo hu) ha) fun v σ H Q ⟨env,S,μ,d,rl,r,o⟩=>by
    unfold gQ at o
    refine ⟨env,S,μ,rl,?_⟩
    cases hmo:mo env S with
    | exc a b=>simp only[hmo] at o; exact o.elim
    | stuck=>simp only[hmo] at o; exact o.elim
    | ok od S1=>
      simp only[hmo] at o
      intro μ1 H1 ov st1 rs1 ro
      refine ⟨env,S1,μ1,⟨rl.env.step st1,rs1⟩,?_⟩
      cases hmi:mi env S1 with
      | exc a b=>simp only[hmi] at o; exact o.elim
      | stuck=>simp only[hmi] at o; exact o.elim
      | ok id S2=>
        simp only[hmi] at o
        intro μ2 H2 iv st2 rs2 ri
        cases hs:bY S2 od id d with
        | none=>simp only[hs] at o; exact o.elim
        | some S3=>
          simp only[hs] at o
          exact ⟨μ2,S2,od,id,d,S3,rs2,Rep.step st2 _ _ ro,ri,Rep.step (st1.trans st2) _ _ r,hs,fun μ' H' st rs'=>o μ' H' σ ((st1.trans st2).trans st) (rl.env.step ((st1.trans st2).trans st)) rs'⟩
def eRev (m:ME):ME:=fun env S=>(m env S).bind fun d S=>match view S d with
  | .lst xs=>.ok (.lst xs.reverse) S
  | _=>.stuck
theorem RepAll.reverse {K:PySem.W.Frag} {mg:Str→Option Value} {μ:Mu} {H:Hp}:∀ {ds:List D} {vs:List V},RepAll K mg μ H ds vs→RepAll K mg μ H ds.reverse vs.reverse
  | [],_,h=>by unfold RepAll at h; subst h; exact .nil
  | d::ds,_,h=>by
    unfold RepAll at h
    obtain ⟨v,r,rfl,h1,h2⟩:=h
    rw[List.reverse_cons,List.reverse_cons]
    exact (RepAll.reverse h2).append (.cons h1 .nil)
theorem pe_rev {e st:Expr} {te:TE} {p3 pos:Pos} (he:PE X e te) (hst:∀σ H,∃t,PE X st t∧t σ H fun v H'=>v=.int (-1)∧H'=H):PE X (.Subscript e (.Slice none none (some st) p3) pos) (tRevL X.K te):=by
  refine ⟨fun pins s σ H Q I h=>?_⟩
  refine Subscript_ (thn (he.run pins s σ H _ I h) fun v s1 ⟨x,H1,I1,r1,q1⟩=>?_)
  obtain ⟨a,xs,ex,hx,q⟩:=q1
  subst ex
  cases r1
  refine wpAny_Slice (thn (po_none.run pins s1 σ H1 (fun o H2=>o=none∧H2=H1) I1 ⟨rfl,rfl⟩) fun vl s2 ⟨l,H2,I2,pl,el,e2⟩=>?_)
  subst el e2
  refine thn (po_none.run pins s2 σ H2 (fun o H3=>o=none∧H3=H2) I2 ⟨rfl,rfl⟩) fun vu s3 ⟨u,H3,I3,pu,eu,e3⟩=>?_
  subst eu e3
  obtain ⟨t,ht,hq⟩:=hst σ H3
  refine thn (ht.run pins s3 σ H3 _ I3 hq) fun vs s4 ⟨o,H4,I4,ps,eo,e4⟩=>?_
  subst eo e4
  obtain ⟨tk,ps⟩:=ps
  have ps':IsPart vs (some (-1)):=by rw[ps]; exact .int _ _
  have I5:Inv X pins σ H4 { s4 with heap:=s4.heap.push { cls:=.type "slice",data:=.fields #[vl,vu,vs] } }:=I4.kept (t':=s4.toks) fun b ob q=>Heap.get?_push_of_some _ q
  obtain ⟨its,r,ht,hz⟩:=I5.list hx
  have hlen:=r.length
  show wpAny (model X.prog X.w) X.A (subscriptTail e (.Slice none none (some st) p3) (.ref a) (.ref s4.heap.objs.size)) (EP X pins σ Q) X.xe { s4 with heap:=s4.heap.push { cls:=.type "slice",data:=.fields #[vl,vu,vs] } }
  refine tail_any (ops:=[.ref a,.ref s4.heap.objs.size]) ht.isList.typeIs (PySem.slot_list_getitem.lookup) ?_ (by with_unfolding_all rfl)
  refine wpAny_getItem_list_slice ht.isList (Heap.IsSliceOf.new _ vl vu vs) pl pu ps' (by decide) ?_ (by rw[List.size_toArray]; omega)
  rw[PySem.W.krv_pick]
  refine ⟨.ref _,_,I5.laid (t':=s4.toks) (o:=.lst xs.reverse) (fun b ob q=>Heap.get?_push_of_some _ q) (Nat.le_refl _) ?_,rfl,q _ (I5.hok.fresh (Nat.le_refl _))⟩
  exact ⟨by rw[List.length_reverse]; exact hz,_,0,r.reverse,Heap.get?_push_size _ rfl⟩
theorem t_rev {m:ME} {σ:L2.St} {H:Hp} {Q:VK} (h:tE X W (eRev m) σ H Q):tRevL X.K (tE X W m) σ H Q:=by
  obtain ⟨env,S,μ,rl,o⟩:=h
  refine ⟨env,S,μ,rl,(Out.bind o).mono fun x H1 ⟨μ1,S1,d,st,rs,rd,o1⟩=>?_⟩
  have rw0:=rs.view rd
  split at o1
  · rename_i xs ev
    rw[ev] at rw0
    obtain ⟨a,vs,rfl,h1,h2⟩:=rw0
    exact ⟨a,vs,rfl,.of h1,fun p hp=>o1 μ1 _ (.ref p) (.of_sm (.upd hp)) (rs.sm (.upd hp)) (bt rs hp h2.reverse)⟩
  · exact o1.elim
/-- xs[::0 - 1] -/
theorem sE_rev {e:Expr} {m:ME} {k1 k2:Nat} {p1 p2 p3 p4 pos:Pos} (he:PE X e (tE X W m)):PE X (.Subscript e (.Slice none none (some (.BinOp (.Constant (.int 0) k1 p1) .Sub (.Constant (.int 1) k2 p2) p4)) p3) pos) (tE X W (eRev m)):=
  cA (pe_rev he fun σ H=>⟨_,pe_op op_sub pe_int pe_int,⟨0,1,rfl,rfl,rfl,rfl⟩⟩) fun σ H Q h=>t_rev h
end
end DL
namespace DL
open PySem PySem.Spec PyProof.Rows L2
section
variable {K:PySem.W.Frag} {mg:Str→Option Value} {μ:Mu} {H:Hp} {S:Sto}
theorem Stp.reveal {p:Addr} {h':List Addr} (hp:p∈μ.h) (hs:∀a∈h',a∈μ.h):Stp μ H ⟨μ.l++[p],h'⟩ H:=
  ⟨⟨⟨[p],rfl⟩,fun a ha=>.inl (by
    rcases ha with z|z
    · rcases List.mem_append.mp z with e|e
      · exact .inl e
      · have:a=p:=by simpa using e
        subst this; exact .inr hp
    · exact .inr (hs a z)),fun _ _ e _ _=>e⟩,fun _ _ _ e=>e⟩
theorem RelS.reveal {p:Addr} {o:O} {h':List Addr} (rs:RelS K mg μ H S) (hp:p∈μ.h) (hs:∀a∈h',a∈μ.h) (hn:p∉h') (r:RepO K mg μ H o p):RelS K mg ⟨μ.l++[p],h'⟩ H (S++[o]):=by
  have np:p∉μ.l:=fun z=>rs.dis p z hp
  have st:Stp μ H ⟨μ.l++[p],h'⟩ H:=.reveal hp hs
  refine ⟨by simp[rs.len],List.nodup_append.mpr ⟨rs.nd,by simp,fun a ha b hb=>?_⟩,fun a ha z=>?_,fun a ha=>rs.hid a (hs a ha),fun l u e=>?_,rs.tab⟩
  · have:b=p:=by simpa using hb
    subst this
    exact fun z=>np (z▸ha)
  · rcases List.mem_append.mp ha with e|e
    · exact rs.dis a e (hs a z)
    · have:a=p:=by simpa using e
      subst this; exact hn z
  · by_cases hl:l<S.length
    · rw[List.getElem?_append_left hl] at e
      obtain ⟨a,h1,h2⟩:=rs.at_ l u e
      exact ⟨a,st.get h1,h2.step st fun w q=>q⟩
    · rw[List.getElem?_append_right (by omega)] at e
      have hl2:l - S.length=0:=by
        have:=(List.getElem?_eq_some_iff.mp e).1
        simp at this; omega
      rw[hl2] at e
      simp at e
      subst e
      have:l=S.length:=by omega
      subst this
      exact ⟨p,by rw[rs.len]; simp,r.step st fun w q=>q⟩
end
def dle (a b:D):Bool:=PySem.W.dataLe false pdF a b
def fJ (xs:List D):Bool:=xs.all (dok 60)&&(xs.all fun a=>xs.all fun b=>PySem.W.alike (pdF a) (pdF b)) &&
  ((xs.all fun a=>match a with
    | .tup (_::_)=>true
    | .tpn (_::_)=>true
    | _=>false)||xs.all fun a=>match a with
    | .tup _=>false
    | .tpn _=>false
    | .none=>false
    | _=>true)
def di (S:Sto) (d:D):Option (List D):=match view S d with
  | .lst xs=>some xs
  | .ro xs=>some xs
  | _=>none
def dP (S:Sto) (ds:List D):Option D:=match ds with
  | [d]=>match di S d with
    | some xs=>if fJ xs=true∧xs.length≤1000000 then some (.lst (xs.mergeSort dle)) else none
    | none=>none
  | _=>none
section
variable {K:PySem.W.Frag} {mg:Str→Option Value} {μ:Mu} {H:Hp} {S:Sto}
theorem oy (rs:RelS K mg μ H S) {d:D} {v:V} {xs:List D} (r:Rep K mg μ H d v) (e:di S d=some xs):∃a vs,v=.ref a∧SqL K H a vs∧RepAll K mg μ H xs vs:=by
  unfold di at e
  have rw0:=rs.view r
  split at e
  · rename_i ev
    cases e
    rw[ev] at rw0
    obtain ⟨a,vs,rfl,h1,h2⟩:=rw0
    exact ⟨a,vs,rfl,.of h1,h2⟩
  · rename_i ev
    cases e
    rw[ev] at rw0
    have rw0:Rep K mg μ H (.ro xs) v:=rw0
    unfold Rep at rw0
    obtain ⟨a,vs,rfl,h1,h2⟩:=rw0
    exact ⟨a,vs,rfl,h1.sq,h2⟩
  · cases e
theorem jT {xs:List D} (h:fJ xs=true):PySem.W.AllAlike (xs.map pdF)∧PySem.W.Sortable (xs.map pdF)∧∀d∈xs,dok 60 d=true:=by
  unfold fJ at h
  simp only[Bool.and_eq_true,Bool.or_eq_true,List.all_eq_true] at h
  obtain ⟨⟨h1,h2⟩,h3⟩:=h
  refine ⟨fun d hd d' hd'=>?_,?_,h1⟩
  · obtain ⟨a,ha,rfl⟩:=List.mem_map.mp hd
    obtain ⟨b,hb,rfl⟩:=List.mem_map.mp hd'
    exact h2 a ha b hb
  · rcases h3 with h3|h3
    · refine .inl fun d hd=>?_
      obtain ⟨a,ha,rfl⟩:=List.mem_map.mp hd
      have:=h3 a ha
      split at this
      · exact ⟨_,_,by unfold pdF; unfold pdFs; rfl⟩
      · exact ⟨_,_,by unfold pdF; unfold pdFs; rfl⟩
      · cases this
    · refine .inr fun d hd=>?_
      obtain ⟨a,ha,rfl⟩:=List.mem_map.mp hd
      have h4:=h3 a ha
      have h5:=h1 a ha
      cases a with
      | tup xs=>simp at h4
      | tpn xs=>simp at h4
      | none=>simp at h4
      | bool b=>unfold pdF; exact ⟨nofun,nofun⟩
      | int b=>unfold pdF; exact ⟨nofun,nofun⟩
      | str b=>unfold pdF; exact ⟨nofun,nofun⟩
      | lst b=>unfold pdF; exact ⟨nofun,nofun⟩
      | ty n=>cases h5
      | ro n=>cases h5
      | loc n=>cases h5
      | glo n=>cases h5
      | adr n=>cases h5
      | clo n=>cases h5
      | exn n=>cases h5
theorem iV:∀ {ds:List D} {vs:List V},ds.length=vs.length→(ds.zip vs).map (·.1)=ds
  | [],[],_=>rfl
  | d::ds,v::vs,h=>by rw[List.zip_cons_cons,List.map_cons,iV (by simpa using h)]
theorem jU:∀ {ds:List D} {vs:List V},RepAll K mg μ H ds vs→∀p∈ds.zip vs,Rep K mg μ H p.1 p.2
  | [],vs,r,p,hp=>by simp at hp
  | d::ds,vs,r,p,hp=>by
    unfold RepAll at r
    obtain ⟨v,q,rfl,h1,h2⟩:=r
    rw[List.zip_cons_cons] at hp
    rcases List.mem_cons.mp hp with e|e
    · subst e; exact h1
    · exact jU h2 p e
theorem kj:∀ {ps:List (D × V)},(∀p∈ps,Rep K mg μ H p.1 p.2)→RepAll K mg μ H (ps.map (·.1)) (ps.map (·.2))
  | [],_=>.nil
  | p::ps,h=>.cons (h p List.mem_cons_self) (kj fun q hq=>h q (List.mem_cons_of_mem _ hq))
/-- what sorting makes of values alike -/
theorem rh:∀ {ds:List D} {vs:List V} {us:List Value},ds.length=vs.length→Vals vs us→PySem.W.EachIs (fun u (p:D × V)=>L2.RelV p.2 u) us (ds.zip vs)
  | [],[],_,_,r=>by cases r; exact .nil
  | d::ds,v::vs,_,h,r=>by
    cases r with
    | cons h1 h2=>
      rw[List.zip_cons_cons]
      exact .cons h1 (rh (by simpa using h) h2)
theorem oz:∀ {us:List Value} {ps:List (D × V)},PySem.W.EachIs (fun u (p:D × V)=>L2.RelV p.2 u) us ps→Vals (ps.map (·.2)) us
  | _,_,.nil=>.nil
  | _,_,.cons h t=>.cons h (oz t)
end
section
variable {X:Cx}
theorem m6 {pins:List (Addr × Obj)} {s:Shared} {σ:L2.St} {H:Hp} {μ:Mu} (I:L2.Inv X pins σ H s):∀ {ds:List D} {vs:List V} {us:List Value},(∀d∈ds,dok 60 d=true)→RepAll X.K X.mg μ H ds vs→Vals vs us→PySem.W.EachIs (fun u (p:D × V)=>∃as,Reads s.heap u (pdF p.1) as) us (ds.zip vs)
  | [],vs,us,_,ra,r=>by
    unfold RepAll at ra; subst ra; cases r; exact .nil
  | d::ds,vs,us,h,ra,r=>by
    unfold RepAll at ra
    obtain ⟨v,q,rfl,h1,h2⟩:=ra
    cases r with
    | cons r1 r2=>
      rw[List.zip_cons_cons]
      exact .cons (Dp.reads I _ _ _ (gJ 60 d v (h d List.mem_cons_self) h1.w) r1) (m6 I (fun x hx=>h x (List.mem_cons_of_mem _ hx)) h2 r2)
theorem oR {ds:List D} {vs:List V} (h:ds.length=vs.length):((ds.zip vs).mergeSort (PySem.W.dataLe false fun p=>pdF p.1)).map (·.1)=ds.mergeSort dle:=by
  rw[List.map_mergeSort (s:=dle)]
  · rw[iV h]
  · intro a ha b hb
    rfl
theorem iW (hu:X.A.units+65<cLine):CallR X (.builtin "sorted") (rB X.K X.mg dP):=by
  intro pins s σ H xs us Q I rx ⟨μ,S,ds,d,rs,ra,e,q⟩
  unfold dP at e
  split at e
  · rename_i d0
    obtain ⟨v,rfl,r1⟩:=b4 ra
    split at e
    · rename_i zs ez
      split at e
      · rename_i hk
        cases e
        obtain ⟨a,vs,rfl,hs,rz⟩:=oy rs r1 ez
        obtain ⟨h1,h2,h3⟩:=jT hk.1
        obtain ⟨its,rv,hl,hz⟩:=I.list hs
        rw[Vals.ref1 rx]
        have hlen:=rz.length
        have en:(zs.zip vs).map (fun p:D × V=>pdF p.1)=zs.map pdF:=by
          conv=>rhs; rw[←iV hlen,List.map_map]
          rfl
        refine PySem.W.sorted_data (R:=fun u (p:D × V)=>L2.RelV p.2 u) (bs:=zs.zip vs) (enc:=fun p=>pdF p.1) hl.isList (rh hlen rv) (m6 I h3 rz rv) (by rw[en]; exact h1) (by rw[en]; exact h2)
          (by rw[List.length_zip,hlen,Nat.min_self]; exact hz) (fun b hb=>?_) fun out ho he=>?_
        · have:=(eR 60 b.1 (h3 _ (List.of_mem_zip hb).1)).2
          omega
        · obtain ⟨ep,he'⟩:=PyProof.Rows.sortedAll_at s.heap its out.toArray
          have rv':=oz he
          have hp:∀p∈(zs.zip vs).mergeSort (PySem.W.dataLe false fun p=>pdF p.1),Rep X.K X.mg μ H p.1 p.2:=fun p hp=>jU rz p (List.mem_mergeSort.mp hp)
          have rr:=kj hp
          rw[oR hlen] at rr
          have hn:H (s.heap.objs.size+1)=none:=I.hok.fresh (Nat.le_succ _)
          refine ⟨.ref _,upd H (s.heap.objs.size+1) (.lst (((zs.zip vs).mergeSort (PySem.W.dataLe false fun p=>pdF p.1)).map (·.2))),I.laid (t':=s.toks) (fun _ _=>PyProof.Rows.sortedAll_old) (Nat.le_succ _) ⟨?_,out,ep,rv',he'⟩,rfl,q _ _ (.upd hn) (bt rs hn rr)⟩
          rw[List.length_map,List.length_mergeSort,List.length_zip,hlen,Nat.min_self]
          exact hz
      · cases e
    · cases e
  · cases e
theorem RepAll.dropLast {K:PySem.W.Frag} {mg:Str→Option Value} {μ:Mu} {H:Hp} {ds:List D} {vs:List V} (r:RepAll K mg μ H ds vs):RepAll K mg μ H ds.dropLast vs.dropLast:=by
  rw[List.dropLast_eq_take,List.dropLast_eq_take,r.length]
  exact r.take _
theorem m_pop:MtR X "list.pop" (rM X.K X.mg bPop):=m5 mt_pop fun x xs H Q ⟨μ,S,d,ds,r,S',rs,rd,rds,e,q⟩=>by
  unfold bPop at e
  split at e
  · rename_i l
    unfold Rep at rd
    obtain ⟨ad,rfl,hμ⟩:=rd
    unfold RepAll at rds
    subst rds
    split at e
    · rename_i ys es
      split at e
      · rename_i a ea
        cases e
        obtain ⟨a',h1,vs,h2,h3⟩:=rs.at_ _ _ es
        rw[hμ] at h1; cases h1
        obtain ⟨v,hv,rv⟩:=h3.get ea
        have st:Step μ H μ (upd H ad (.lst vs.dropLast)):=Step.write rs hμ (.of h2)
        refine ⟨ad,vs,v,rfl,rfl,h2,by rw[←h3.length]; exact hv,q μ _ v st (rs.write hμ (.of h2) ⟨_,upd_same,RepAll.step st _ _ h3.dropLast⟩) (Rep.step st _ _ rv)⟩
      · cases e
    · cases e
  · cases e
end
def uZ:D→Option (D × D)
  | .tup [k,v]=>if cg false k=true then some (k,v) else none
  | _=>none
def eU:List D→Option (List (D × D))
  | []=>some []
  | d::ds=>match uZ d,eU ds with
    | some p,some ps=>some (p::ps)
    | _,_=>none
def eF (kvs:List (D × D)):List (D × D)→List (D × D)
  | []=>kvs
  | p::ps=>eF (g5 false kvs p.1 p.2) ps
def qN (r:MA):ME:=fun env S=>(r env S).bind fun ds S=>match ds with
  | [.tpn xs]=>match eU xs with
    | some ps=>if xs.length≤1000000 then .ok (.loc S.length) (S++[.dct false (eF [] ps)]) else .stuck
    | none=>.stuck
  | _=>.stuck
section
variable {X:Cx}
theorem xt {pins:List (Addr × Obj)} {σ:L2.St} {H:Hp} {s:Shared} (I:L2.Inv X pins σ H s):∀ {ps:List Addr} {kvs:List (Key × V)},Paired (fun p kv=>SqT X.K H p [kV kv.1,kv.2]) ps kvs→
    ∃(prs:List (Key × Value)) (uvs:List (Value × Value)),KV kvs prs∧prs.length=ps.length∧uvs.length=ps.length∧∀(j:Nat) (u v:Value),uvs[j]?=some (u,v)→∃(b:Addr) (k:Key),ps[j]?=some b∧IsTup s.heap b #[u,v]∧keyIs k u=true∧prs[j]?=some (k,v)
  | _,_,.nil=>⟨[],[],.nil,rfl,rfl,fun j u v e=>by simp at e⟩
  | _,_,.cons (a:=p) (b:=kv) h t=>by
    obtain ⟨prs,uvs,r,hl,hl2,hp⟩:=xt I t
    obtain ⟨its,rv,ht,_⟩:=I.tuple h
    obtain ⟨u,y,ei,ru,ry⟩:=vals2 rv
    subst ei
    refine ⟨(kv.1,y)::prs,(u,y)::uvs,.cons ⟨rfl,ry⟩ r,by rw[List.length_cons,List.length_cons,hl],by rw[List.length_cons,List.length_cons,hl2],fun j u' v' e=>?_⟩
    cases j with
    | zero=>
      have e':(u,y)=(u',v'):=Option.some.inj e
      cases e'
      exact ⟨p,kv.1,rfl,ht,kV_is (P:=X.prog) (w:=X.w) ru,rfl⟩
    | succ j=>
      obtain ⟨b,k,e1,e2,e3,e4⟩:=hp j u' v' (by simpa using e)
      exact ⟨b,k,by simpa using e1,e2,e3,by simpa using e4⟩
theorem rj (hcalm:X.calm=true):CallR X (.type "dict") (fun xs H Q=>∃(a:Addr) (o:Obj) (ps:List Addr) (kvs:List (Key × V)),xs=[.ref a]∧H a=some (.frz o (.tup (ps.map V.ref)))∧o.dict=none∧Paired (fun p kv=>SqT X.K H p [kV kv.1,kv.2]) ps kvs∧
    ∀p,H p=none→Q (.ref p) (upd H p (.dK (mergeK [] kvs)))):=by
  intro pins s σ H xs us Q I r q
  obtain ⟨a,o,ps,kvs,ex,hq,hd,hp,q⟩:=q
  subst ex
  obtain ⟨u,eu,rx⟩:=vals1 r
  subst eu
  cases rx
  obtain ⟨ho,hz,its,rv,o',ho',hc,n,hdat⟩:=I.hok a _ hq
  rw[ho] at ho'; cases ho'
  have ei:=refs_at rv
  subst ei
  rw[List.length_map] at hz
  obtain ⟨prs,uvs,rel,hl,hl2,hpr⟩:=xt I hp
  have at_:∀(j:Nat) (k v:Value),uvs[j]?=some (k,v)→(List.toArray (ps.map Value.ref))[j]?=some (.ref ((ps[j]?).getD 0))∧PySem.PairAt s.heap ((ps[j]?).getD 0) k v:=fun j k v e=>by
    obtain ⟨b,kk,e1,e2,e3,e4⟩:=hpr j k v e
    refine ⟨?_,?_⟩
    · simp[e1]
    · rw[e1]; exact .inl e2
  refine PySem.call_dict_pairs (knd:=mixKind X.prog X.w) (kvs:=prs) (PySem.PairArg.tuple a (List.toArray (ps.map Value.ref)) (fun j=>(ps[j]?).getD 0) uvs) (I.ok.hd hcalm) ⟨⟨o,n,ho,hc,hd,hdat⟩,⟨by simp[hl2],at_⟩⟩ ⟨by rw[hl,hl2],fun i key v e=>?_⟩ (by rw[hl2]; exact hz) fun h' tk hd' k=>?_
  · obtain ⟨b,kk,e1,e2,e3,e4⟩:=hpr i key v e
    exact ⟨kk,e4,e3⟩
  · have hm:(s.heap.objs.size == sysModules)=false:=beq_eq_false_iff_ne.mpr (Nat.ne_of_gt I.big)
    have hlen:(mergeK [] kvs).length≤sizeLine:=by
      refine Nat.le_trans (length_mergeK kvs []) ?_
      rw[List.length_nil,Nat.zero_add,rel.length,hl]
      exact hz
    exact ⟨.ref s.heap.objs.size,upd H s.heap.objs.size (.dK (mergeK [] kvs)),I.laid (t':=tk) (fun b o e=>k b o (by simp) e) (Nat.le_refl _) (show ObjOk X.prog X.w _ _ _ (.dK (mergeK [] kvs)) from ⟨hlen,hm,merged [] prs,KV.merge rel .nil,hd'⟩),rfl,q _ (I.hok.fresh (Nat.le_refl _))⟩
end
section
variable {K:PySem.W.Frag} {mg:Str→Option Value} {μ:Mu} {H:Hp}
theorem o0:∀ {xs:List D} {vs:List V} {ps:List (D × D)},RepAll K mg μ H xs vs→eU xs=some ps→∃(as:List Addr) (kvs:List (Key × V)),vs=as.map V.ref∧Paired (fun p kv=>SqT K H p [kV kv.1,kv.2]) as kvs∧ps.map (·.1)=kvs.map (fun kv=>dt kv.1)∧RepAll K mg μ H (ps.map (·.2)) (kvs.map (·.2))
  | [],vs,ps,r,e=>by
    unfold RepAll at r; subst r; cases e
    exact ⟨[],[],rfl,.nil,rfl,.nil⟩
  | d::ds,vs,ps,r,e=>by
    unfold RepAll at r
    obtain ⟨v,q,rfl,r1,r2⟩:=r
    unfold eU at e
    split at e
    · rename_i p ps' ep eps
      cases e
      obtain ⟨as,kvs,rfl,h1,h2,h3⟩:=o0 r2 eps
      unfold uZ at ep
      split at ep
      · rename_i k w
        split at ep
        · rename_i hk
          cases ep
          obtain ⟨kk,rfl⟩:=rH hk
          unfold Rep at r1
          obtain ⟨a,vs,rfl,g1,gn,g2⟩:=r1
          obtain ⟨u1,u2,rfl,k1,k2⟩:=gM g2
          rw[ip k1] at g1
          exact ⟨a::as,(kk,u2)::kvs,rfl,.cons (.of g1) h1,by rw[List.map_cons,List.map_cons,h2],.cons k2 h3⟩
        · cases ep
      · cases ep
    · cases e
theorem vy:∀ {ps:List (D × D)} {kvs:List (Key × V)} {ds:List (D × D)} {acc:List (Key × V)},ps.map (·.1)=kvs.map (fun kv=>dt kv.1)→RepAll K mg μ H (ps.map (·.2)) (kvs.map (·.2))→(∃ks vs,acc=List.zip ks vs∧ds.map (·.1)=ks.map dt∧RepAll K mg μ H (ds.map (·.2)) vs)→
    ∃ks vs,mergeK acc kvs=List.zip ks vs∧(eF ds ps).map (·.1)=ks.map dt∧RepAll K mg μ H ((eF ds ps).map (·.2)) vs
  | [],kvs,ds,acc,e,r,h=>by
    have:kvs=[]:=by cases kvs with|nil=>rfl|cons a b=>cases e
    subst this; exact h
  | p::ps,kvs,ds,acc,e,r,⟨ks,vs,h1,h2,h3⟩=>by
    cases kvs with
    | nil=>cases e
    | cons kv kvs=>
      have r:RepAll K mg μ H (p.2::ps.map (·.2)) (kv.2::kvs.map (·.2)):=r
      unfold RepAll at r
      obtain ⟨v,q,ee,r1,r2⟩:=r
      cases ee
      injection e with e1 e2
      have e1:p.1=dt kv.1:=e1
      subst h1
      obtain ⟨ks',vs',g1,g2,g3⟩:=jp rG kv.1 r1 h2 h3
      refine vy (ds:=g5 false ds p.1 p.2) (acc:=putK (ks.zip vs) kv.1 kv.2) e2 r2 ⟨ks',vs',g1,?_,?_⟩
      · unfold g5; rw[e1]; exact g2
      · unfold g5; rw[e1]; exact g3
end
section
variable {X:Cx} {W:WX} {e:Expr} {p pos:Pos} {r:MA}
theorem xu (hcalm:X.calm=true) (hg:Gl X "dict") (hm:X.mg "dict"=none) (hv:bootBuiltins "dict"=some (.type "dict")) (ha:PA X [e] (tAs X W r))
    (he:starEach [e] X.env=(false,eval e X.env)::starEach [] X.env:=by rfl) (hpl:(backTo pos (starEach [] X.env)).any (·.1)=false:=by rfl):PE X (.Call (.Name "dict" p) [e] [] pos) (tE X W (qN r)):=
  cA (pe_callTy (rj hcalm) hg hm hv ha (by decide) (by decide) he hpl) fun σ H Q ⟨env,S,μ,rl,o⟩=>⟨env,S,μ,rl,(Out.bind o).mono fun vs H1 ⟨μ1,S1,ds,st,rs,rd,o1⟩=>by
    split at o1
    · rename_i xs
      split at o1
      · rename_i ps ep
        split at o1
        · obtain ⟨v,rfl,r1⟩:=b4 rd
          unfold Rep at r1
          obtain ⟨a,ws,o,rfl,⟨h1,hd⟩,n,h2⟩:=r1
          obtain ⟨as,kvs,rfl,g1,g2,g3⟩:=o0 h2 ep
          refine ⟨a,o,as,kvs,rfl,h1,hd,g1,fun p hp=>?_⟩
          obtain ⟨ks,vs,m1,m2,m3⟩:=vy (ds:=[]) (acc:=[]) g2 g3 ⟨[],[],rfl,rfl,.nil⟩
          obtain ⟨x,y,z⟩:=mB (o:=.dct false (eF [] ps)) (ho:=.dK (mergeK [] kvs)) rs hp ⟨vs,ks,⟨by rw[upd_same,m1],m2⟩,RepAll.step (.new_loc hp) _ _ m3⟩
          exact o1 _ _ _ x y z
        · exact o1.elim
      · exact o1.elim
    · exact o1.elim⟩
end
end DL
namespace DL
open PySem PySem.Spec PyProof.Rows L2
def km (g:MG) (tc:MT) (mk mv:ME) (w:En) (d:D) (acc:List (D × D)) (S:Sto):Res (List (D × D)):=match g d w S with
  | none=>.stuck
  | some p=>(tc p.1 p.2).bindS fun c S2=>if c=true then (mk p.1 S2).bindS fun k S3=>(mv p.1 S3).bindS fun v S4=>if cg false k=true∧acc.length<1000000 then .ok (g5 false acc k v) S4 else .stuck else .ok acc S2
def fK (g:MG) (tc:MT) (mk mv:ME) (w:En):List D→List (D × D)→Sto→Res (List (D × D))
  | [],acc,S=>.ok acc S
  | d::ds,acc,S=>(km g tc mk mv w d acc S).bindS fun acc S=>fK g tc mk mv w ds acc S
/-- a dict laid -/
def kD:List (D × D)→Sto→Res D:=fun kvs S=>.ok (.loc S.length) (S++[.dct false kvs])
def m7 (mi:MI) (g:MG) (tc:MT) (mk mv:ME) (vs:List Nat):ME:=fun env S=>(mi env S).bind fun it S=>match it with
  | .items ds=>(fK g tc mk mv (aU env vs) ds [] S).bind kD
  | .live _=>.stuck
  | .liveE _=>.stuck
section
variable {X:Cx} {W:WX} {e tg iter elt kx vx:Expr} {pos:Pos} {g:MG} {m mk mv:ME} {mi:MI} {tc:MT} {vs:List Nat}
/-- a dict that is being made -/
def DOk (K:PySem.W.Frag) (mg:Str→Option Value) (μ:Mu) (H:Hp) (p:Addr) (acc:List (D × D)):Prop:=∃(ks:List Key) (vs:List V),H p=some (.dK (ks.zip vs))∧acc.map (·.1)=ks.map dt∧RepAll K mg μ H (acc.map (·.2)) vs
theorem zp {W:WX} {vs:List Nat} {σ:L2.St} {w:En} {p:Addr} {Q:V→Hp→Prop} {μ1 μ2:Mu} {H1 H2:Hp} {S2:Sto} {d:D} {x:V} {acc:List (D × D)} {N:Hp→Prop} {f:List (D × D)→Sto→Res D}
    (re:RelE X.K X.mg μ2 H2 w (L2.wipe σ vs)) (rs:RelS X.K X.mg μ2 H2 S2) (hp:DOk X.K X.mg μ2 H2 p acc) (np:p∈μ2.h) (rx:Rep X.K X.mg μ2 H2 d x)
    (o:Out X.K X.mg W σ μ1 H1 (fun μ H a b=>Rep X.K X.mg μ H a b) Q ((km g tc mk mv w d acc S2).bindS f))
    (hN:∀μ3 H3 S3 acc',StP p μ2 H2 μ3 H3→RelS X.K X.mg μ3 H3 S3→DOk X.K X.mg μ3 H3 p acc'→Out X.K X.mg W σ μ1 H1 (fun μ H a b=>Rep X.K X.mg μ H a b) Q (f acc' S3)→N H3) :
    tGc X vs g x (L2.wipe σ vs) H2 fun σ2 H3=>L2.wipe σ2 vs=L2.wipe σ vs∧tT X W0 tc σ2 H3 fun b H4=>if b=true then tE X W0 mk σ2 H4 fun y H5=>tE X W0 mv σ2 H5 fun z H6=>∃kvs k,y=kV k∧H6 p=some (.dK kvs)∧kvs.length<sizeLine∧N (upd H6 p (.dK (putK kvs k z))) else N H4:=by
  refine ⟨w,S2,μ2,d,⟨re,rs⟩,rx,?_⟩
  unfold km at o
  obtain ⟨ks,us,hp,hk,ra⟩:=hp
  cases hg:g d w S2 with
  | none=>simp only[hg,Res.bindS] at o; exact o.elim
  | some q=>
    obtain ⟨e,Se⟩:=q
    simp only[hg] at o
    intro μ3 H3 σ3 st3 re3 rs3 hw
    refine ⟨hw.trans (fU vs vs σ fun i hi=>hi),e,Se,μ3,⟨re3,rs3⟩,?_⟩
    have hp3:=st3.hk _ _ np hp
    have np3:p∈μ3.h:=by rw[st3.hid]; exact np
    have ra3:=RepAll.step st3 _ _ ra
    cases htc:tc e Se with
    | exc a b=>simp only[htc,Res.bindS] at o; exact o.elim
    | stuck=>simp only[htc,Res.bindS] at o; exact o.elim
    | ok c S4=>
      simp only[htc,Res.bindS] at o
      intro μ4 H4 b st4 rs4 hb
      subst hb
      have hp4:=st4.hk _ _ np3 hp3
      have np4:p∈μ4.h:=by rw[st4.hid]; exact np3
      have ra4:=RepAll.step st4 _ _ ra3
      cases b with
      | false=>
        simp only[Bool.false_eq_true,if_false] at o ⊢
        exact hN μ4 H4 S4 acc (.of (st3.trans st4)) rs4 ⟨ks,us,hp4,hk,ra4⟩ o
      | true=>
        simp only[if_true] at o ⊢
        refine ⟨e,S4,μ4,⟨re3.step st4,rs4⟩,?_⟩
        cases hm:mk e S4 with
        | exc a b=>simp only[hm,Res.bindS] at o; exact o.elim
        | stuck=>simp only[hm,Res.bindS] at o; exact o.elim
        | ok kd S5=>
          simp only[hm,Res.bindS] at o
          intro μ5 H5 y st5 rs5 ry
          have hp5:=st5.hk _ _ np4 hp4
          have np5:p∈μ5.h:=by rw[st5.hid]; exact np4
          have ra5:=RepAll.step st5 _ _ ra4
          refine ⟨e,S5,μ5,⟨(re3.step st4).step st5,rs5⟩,?_⟩
          cases hv:mv e S5 with
          | exc a b=>simp only[hv,Res.bindS] at o; exact o.elim
          | stuck=>simp only[hv,Res.bindS] at o; exact o.elim
          | ok v S6=>
            simp only[hv,Res.bindS] at o
            intro μ6 H6 z st6 rs6 rz
            have hp6:=st6.hk _ _ np5 hp5
            have np6:p∈μ6.h:=by rw[st6.hid]; exact np5
            have ra6:=RepAll.step st6 _ _ ra5
            by_cases hl:cg false kd=true∧acc.length<1000000
            · simp only[hl,and_self,if_true] at o
              obtain ⟨kk,rfl⟩:=rH hl.1
              obtain ⟨ks',vs',h1,h2,h3⟩:=jp rG kk rz hk ra6
              have sw:StP p μ6 H6 μ6 (upd H6 p (.dK (putK (ks.zip us) kk z))):=.write np6 (.of hp6)
              refine ⟨_,kk,ip ry,hp6,?_,?_⟩
              · rw[ir hk ra,sizeLine_eq]; omega
              · exact hN μ6 _ S6 _ ((StP.of (((st3.trans st4).trans st5).trans st6)).trans sw) (rs6.write_hid np6) ⟨ks',vs',by rw[upd_same,h1],h2,RepAll.stp sw.toStp _ _ h3⟩ o
            · simp only[hl,if_false] at o; exact o.elim
theorem dc_sem {own:List (Str × Nat)} {σ:L2.St} {H:Hp} {Q:VK} {W:WX} (h:tE X W (m7 mi g tc mk mv (own.map (·.2))) σ H Q) :
    tDc (tI X W mi) (tGc X (own.map (·.2)) g) (tT X W0 tc) (tE X W0 mk) (tE X W0 mv) (own.map (·.2)) σ H Q:=by
  obtain ⟨env,S,μ,rl,o⟩:=h
  generalize own.map (·.2)=vs at *
  refine ⟨env,S,μ,rl,(Out.bind o).mono fun J H1 ⟨μ1,S1,it,st,rs,rd,o1⟩ p hp=>?_⟩
  have rw1:RelE X.K X.mg μ1 H1 (aU env vs) (L2.wipe σ vs):=(rl.env.step st).wipe vs
  generalize aU env vs=w at *
  have sh:Stp μ1 H1 (μ1.hide p) (upd H1 p (.dK [])):=.new_hid hp
  have fin:∀(μ2:Mu) (H2:Hp) (S2:Sto) (acc:List (D × D)),StP p (μ1.hide p) (upd H1 p (.dK [])) μ2 H2→RelS X.K X.mg μ2 H2 S2→DOk X.K X.mg μ2 H2 p acc→Out X.K X.mg W σ μ1 H1 (fun μ H a b=>Rep X.K X.mg μ H a b) Q (Res.bind (.ok acc S2) kD)→Q (.ref p) H2:=by
    intro μ2 H2 S2 acc sp rs2 ⟨ks,us,hp2,hk2,ra⟩ o
    have hpm:p∈μ2.h:=by rw[sp.hid]; exact List.mem_cons_self
    have sub:∀a∈μ1.h,a∈μ2.h:=fun a ha=>by rw[sp.hid]; exact List.mem_cons_of_mem _ ha
    have su:Stp μ2 H2 ⟨μ2.l++[p],μ1.h⟩ H2:=.reveal hpm sub
    have rr:=rs2.reveal (o:=.dct false acc) hpm sub (rs.notinH hp) ⟨us,ks,⟨hp2,hk2⟩,ra⟩
    refine o ⟨μ2.l++[p],μ1.h⟩ H2 (.ref p) ⟨(sh.trans sp.toStp).trans su,rfl,fun a u ha e nt=>sp.hk a u (ne_of_none e hp) (List.mem_cons_of_mem _ ha) (by rw[upd_ne (ne_of_none e hp)]; exact e) nt⟩ rr ?_
    unfold Rep
    exact ⟨p,rfl,by rw[rs2.len]; simp⟩
  have npm:∀ {μ2:Mu} {H2:Hp},StP p (μ1.hide p) (upd H1 p (.dK [])) μ2 H2→p∈μ2.h:=fun sp=>by rw[sp.hid]; exact List.mem_cons_self
  have st0:StP p (μ1.hide p) (upd H1 p (.dK [])) (μ1.hide p) (upd H1 p (.dK [])):=.of .refl
  cases it with
  | items ds=>
    have rd:dZ X.K X.mg μ1 H1 ds J:=rd
    refine ⟨fun i n H=>n+i=ds.length∧∃μ S acc,StP p (μ1.hide p) (upd H1 p (.dK [])) μ H∧RelS X.K X.mg μ H S∧DOk X.K X.mg μ H p acc∧Out X.K X.mg W σ μ1 H1 (fun μ H a b=>Rep X.K X.mg μ H a b) Q ((fK g tc mk mv w (ds.drop i) acc S).bind kD),
      ⟨ds.length,rfl,_,S1,[],st0,rs.hide hp,⟨[],[],upd_same,rfl,.nil⟩,o1⟩,?_⟩
    rintro i n H ⟨hn,μ,S,acc,sp,rs,hpp,o⟩
    have sb:Stp μ1 H1 μ H:=sh.trans sp.toStp
    by_cases hi:i<ds.length
    · have ed:ds.drop i=ds[i]::ds.drop (i+1):=List.drop_eq_getElem_cons hi
      rw[ed] at o
      unfold fK at o
      have o:Out X.K X.mg W σ μ1 H1 (fun μ H a b=>Rep X.K X.mg μ H a b) Q ((km g tc mk mv w ds[i] acc S).bindS fun acc S=>(fK g tc mk mv w (ds.drop (i+1)) acc S).bind kD):=by
        cases hq:km g tc mk mv w ds[i] acc S with
        | ok a b=>rw[hq] at o; exact o
        | exc a b=>rw[hq] at o; exact o
        | stuck=>rw[hq] at o; exact o
      refine .inr ⟨rd.goes i μ H hi sb,fun H=>∃μ S acc,StP p (μ1.hide p) (upd H1 p (.dK [])) μ H∧RelS X.K X.mg μ H S∧DOk X.K X.mg μ H p acc∧Out X.K X.mg W σ μ1 H1 (fun μ H a b=>Rep X.K X.mg μ H a b) Q ((fK g tc mk mv w (ds.drop (i+1)) acc S).bind kD),fun H' w=>⟨n - 1,by omega,by omega,w⟩,fun x H' y=>?_⟩
      obtain ⟨sm,rx⟩:=rd.yields i _ μ H S x H' (List.getElem?_eq_getElem hi) sb rs y
      have sx:Step μ H μ H':=.of_sm sm
      have spx:=sp.trans (StP.of sx)
      obtain ⟨ks,us,g1,g2,g3⟩:=hpp
      refine zp ((rw1.stp sh).stp spx.toStp) (rs.sm sm) ⟨ks,us,sm _ _ g1,g2,RepAll.step sx _ _ g3⟩ (npm spx) rx o fun μ3 H3 S3 acc' s3 rs3 hp3 o3=>⟨μ3,S3,acc',spx.trans s3,rs3,hp3,o3⟩
    · have e:i=ds.length:=by omega
      subst e
      rw[List.drop_length] at o
      exact .inl ⟨rd.stops μ H sb,fin μ H S acc sp rs hpp o⟩
  | live l=>exact o1.elim
  | liveE l=>exact o1.elim
theorem xw {scope:Scope} {own:List (Str × Nat)} {ifs:List Expr} (hc:X.calm=true) (hN:X.N.Nodup) (hi:PI X tg iter (tI X W mi)) (ok:BlkOk X.N X.env.scope scope own)
    (hg:∀(s:Shared) (H:Hp) (C:Addr) (cl:List (Str × Addr)) (fp:List Addr),PG (X.blk s H scope (compEnvC scope cl C X.env) fp) tg (tGc (X.blk s H scope (compEnvC scope cl C X.env) fp) (own.map (·.2)) g))
    (ht:∀(s:Shared) (H:Hp) (C:Addr) (cl:List (Str × Addr)) (fp:List Addr),qK (X.blk s H scope (compEnvC scope cl C X.env) fp) ifs tc)
    (hk:∀(s:Shared) (H:Hp) (C:Addr) (cl:List (Str × Addr)) (fp:List Addr),PE (X.blk s H scope (compEnvC scope cl C X.env) fp) kx (tE (X.blk s H scope (compEnvC scope cl C X.env) fp) W0 mk))
    (he:∀(s:Shared) (H:Hp) (C:Addr) (cl:List (Str × Addr)) (fp:List Addr),PE (X.blk s H scope (compEnvC scope cl C X.env) fp) vx (tE (X.blk s H scope (compEnvC scope cl C X.env) fp) W0 mv)) (hs:∀x,foldedSetIterable iter X.env x=pure x:=by intro _; rfl) :
    PE X (.DictComp kx vx [⟨tg,iter,ifs,0⟩] scope pos) (tE X W (m7 mi g tc mk mv (own.map (·.2)))):=
  cA (pe_dc (g:=tGc X (own.map Prod.snd) g) (tt:=tT X W0 tc) (tk:=tE X W0 mk) (tv:=tE X W0 mv) hc hN hi ok hg ht hk he hs) fun σ H Q h=>dc_sem h
end
end DL
namespace DL
open PySem PySem.Spec PyProof.Rows L2
def m8 (C:Str):MS:=fun env S=>.exc ⟨C,[]⟩ env S
/-- an own exception class without fields -/
structure ExcF (K:PySem.W.Frag) (C:Addr):Prop where
  ex:PySem.W.excIn K C He.veBase "ValueError.__new__"=true
  kp:PySem.W.keepIn K (.ref C)=true
  s1:PySem.W.subIn K (.ref C) (.type "BaseException")=some true
  s2:PySem.W.typeIn K (.ref C)=some (.type "type")
section
variable {X:Cx} {W:WX} {pos:Pos}
theorem rm {x m:Str} {j:Nat} {p p2 p3:Pos} {C:Addr} (hc:X.calm=true) (tk:Takes X W) (F:ExcF X.K C) (gC:X.mg x=some (.ref C)) (hg:Gl X x) (hdb:(x == ("__debug__":Str))=false:=by decide) :
    PS X (.Raise (some (.Call (.Name x p) [.Constant (.str m) j p2] [] p3)) none pos) (tS X W (m8 x)):=
  fZ (L2N.ps_raise hc tk (L2N.pmk_own PySem.F.excBase_ValueError F.ex gC F.kp (raises_own F.s1 F.s2) hg hdb)) fun D σ H ⟨env,S,μ,rl,o⟩=>
    o μ H σ (.ref C) none .refl rl.env rl.sto ⟨C,gC,rfl,.inl ⟨rfl,rfl⟩⟩
end
def flV:D→Option V
  | .none=>some .non
  | .bool b=>some (.bl b)
  | .int i=>some (.int i)
  | .str x=>some (.str x)
  | _=>none
def flVs:List D→Option (List V)
  | []=>some []
  | d::ds=>match flV d,flVs ds with
    | some v,some vs=>some (v::vs)
    | _,_=>none
section
variable {K:PySem.W.Frag} {mg:Str→Option Value} {μ:Mu} {H:Hp}
theorem ua {d:D} {v u:V} (r:Rep K mg μ H d v) (e:flV d=some u):v=u:=by
  cases d with
  | none=>cases e; unfold Rep at r; exact r
  | bool b=>cases e; unfold Rep at r; exact r
  | int b=>cases e; unfold Rep at r; exact r
  | str b=>cases e; unfold Rep at r; exact r
  | _=>cases e
theorem qO:∀ {ds:List D} {vs us:List V},RepAll K mg μ H ds vs→flVs ds=some us→vs=us
  | [],vs,us,r,e=>by unfold RepAll at r; cases e; exact r
  | d::ds,vs,us,r,e=>by
    unfold RepAll at r
    obtain ⟨v,q,rfl,r1,r2⟩:=r
    unfold flVs at e
    split at e
    · rename_i a b ea eb
      cases e
      rw[ua r1 ea,qO r2 eb]
    · cases e
end
def rCount (K:PySem.W.Frag):V→List V→Hp→VK→Prop:=fun x xs H Q=>∃(a:Addr) (ys:List V) (y:V),x=V.ref a∧xs=[y]∧SqL K H a ys∧flatV y=true∧ys.all flatV=true∧Q (.int (ys.countP fun z=>eqV z y:Nat)) H
section
variable {X:Cx}
theorem pA {x:V}:∀ {xs:List V} {us:List Value},Vals xs us→xs.all flatV=true→us.countP (eqU x)=xs.countP fun y=>eqV y x
  | _,_,.nil,_=>rfl
  | y::xs,u::us,.cons r t,f=>by
    rw[List.all_cons,Bool.and_eq_true] at f
    rw[List.countP_cons,List.countP_cons,pA t f.2,eqU_of r f.1]
theorem wd:MtR X "list.count" (rCount X.K):=by
  intro pins s σ H x xs v us Q I rx rxs h
  obtain ⟨a,ys,y,rfl,rfl,hs,fy,fys,q⟩:=h
  cases rx
  cases rxs with
  | cons ry rt=>
    rename_i uy ut
    cases rt
    obtain ⟨its,rv,⟨⟨cls,dd,data,sl⟩,n,ho,hc,hdn,hd⟩,hlen⟩:=I.list hs
    simp only at hc hd
    subst hc hd
    refine call_meets PySem.F.slot_list_count ⟨_,ho,rfl⟩ PySem.F.entry_list_count (PySem.F.args_list_count_2 _ _)
      (SeqAt.list_countAt a its.toArray n dd sl uy (eqU y)) ⟨ho,fun u' hu'=>mem_eqAt ry fy rv fys u' (by simpa using hu'),?_⟩
    refine ⟨.int (ys.countP (fun z=>eqV z y):Nat),H,I.tok _,⟨s.toks,?_⟩,q⟩
    show Value.int ((its.toArray.toList.countP (eqU y):Nat):Int) s.toks=_
    rw[show its.toArray.toList=its from rfl,pA rv fys]
def ub:BM:=fun S d ds=>match view0 S d,ds with
  | .lst xs,[a]=>match flVs xs,flV a with
    | some vs,some v=>if vs.all flatV&&flatV v then some (.int (vs.countP fun z=>eqV z v:Nat),S) else none
    | _,_=>none
  | _,_=>none
theorem zq:MtR X "list.count" (rM X.K X.mg ub):=m5 wd fun x xs H Q ⟨μ,S,d,ds,r,S',rs,rd,rds,e,q⟩=>by
  unfold ub at e
  split at e
  · rename_i zs a ev
    have rw0:=rs.view0 rd
    rw[ev] at rw0
    obtain ⟨ad,vs,rfl,h1,h2⟩:=rw0
    obtain ⟨v,rfl,rv⟩:=b4 rds
    split at e
    · rename_i us u e1 e2
      split at e
      · rename_i hf
        cases e
        rw[Bool.and_eq_true] at hf
        obtain rfl:=qO h2 e1
        obtain rfl:=ua rv e2
        exact ⟨ad,_,_,rfl,rfl,.of h1,hf.2,hf.1,q μ H _ .refl rs (az _)⟩
      · cases e
    · cases e
  · cases e
def uc:BM:=fun S d ds=>match view0 S d,ds with
  | .lst xs,[a]=>match flVs xs,flV a with
    | some vs,some v=>if vs.all flatV&&flatV v then (vs.findIdx? fun z=>eqV z v).map fun j=>(.int (j:Nat),S) else none
    | _,_=>none
  | _,_=>none
theorem zr:MtR X "list.index" (rM X.K X.mg uc):=m5 mt_index fun x xs H Q ⟨μ,S,d,ds,r,S',rs,rd,rds,e,q⟩=>by
  unfold uc at e
  split at e
  · rename_i zs a ev
    have rw0:=rs.view0 rd
    rw[ev] at rw0
    obtain ⟨ad,vs,rfl,h1,h2⟩:=rw0
    obtain ⟨v,rfl,rv⟩:=b4 rds
    split at e
    · rename_i us u e1 e2
      split at e
      · rename_i hf
        obtain ⟨j,hj,e3⟩:=Option.map_eq_some_iff.mp e
        cases e3
        rw[Bool.and_eq_true] at hf
        obtain rfl:=qO h2 e1
        obtain rfl:=ua rv e2
        obtain ⟨hjl,g1,g2⟩:=List.findIdx?_eq_some_iff_getElem.mp hj
        exact ⟨ad,_,_,j,_,rfl,rfl,.of h1,hf.2,hf.1,List.getElem?_eq_getElem hjl,g1,fun m z' hm hz=>by
          have hml:m<vs.length:=(List.getElem?_eq_some_iff.mp hz).1
          have:=g2 m hm
          rw[List.getElem?_eq_getElem hml] at hz
          cases hz
          simpa using this,q μ H _ .refl rs (az _)⟩
      · cases e
    · cases e
  · cases e
def ue:BM:=fun S d ds=>match d,ds with
  | .str a,[.str b]=>if (b.length == 0)=false∧a.length≤100000 then some (.lst ((Txt.split a b).map .str),S) else none
  | _,_=>none
theorem lX {K:PySem.W.Frag} {mg:Str→Option Value} {μ:Mu} {H:Hp}:∀ys:List Str,RepAll K mg μ H (ys.map .str) (ys.map V.str)
  | []=>.nil
  | y::ys=>.cons (gI y) (lX ys)
theorem zt:MtR X "str.split" (rM X.K X.mg ue):=m5 mt_split fun x xs H Q ⟨μ,S,d,ds,r,S',rs,rd,rds,e,q⟩=>by
  unfold ue at e
  split at e
  · rename_i a b
    split at e
    · rename_i hz
      cases e
      unfold Rep at rd
      subst rd
      obtain ⟨v,rfl,rv⟩:=b4 rds
      unfold Rep at rv
      subst rv
      exact ⟨a,b,rfl,rfl,hz.1,by rw[sizeLine_eq]; omega,fun p hp=>q μ _ _ (.of_sm (.upd hp)) (rs.sm (.upd hp)) (bt rs hp (lX _))⟩
    · cases e
  · cases e
end
section
open PySem.W PySem.Calls
variable {prog:Program} {w:World} {A:Around} {E:Value→Shared→Prop} {s:Shared} {K:Frag} {x D:Addr} {ox:Obj} {od:Option Obj}
theorem oS {C:Addr} {name:Str} {a g:Value} (hc:(clsIn K C).isSome=true) (ha:findIn K (.ref C) name=some (some a)) (hg:specialIn K a "__get__"=some (some g)) (ht:takesIn K a=some true):findObj K C od name=some (.bind g a):=by
  obtain ⟨cd,hc⟩:=Option.isSome_iff_exists.mp hc
  unfold findObj
  rw[hc,Option.bind_some,ha,Option.bind_some]
  simp[hg,ht]
theorem we {Q:Option Value→Shared→Prop} (T:ExcC K D) (X:K.In s.heap) (I:InstAt s.heap x ox D od) (h:Q (some (.ref D)) { s with toks:=s.toks+1 }):wpAny (model prog w) A (getAttr? (.ref x) "__class__") Q E s:=by
  have hf:findObj K D od "__class__"=some (.bind (.builtin "getset_descriptor.__get__") (.builtin "object.__class__")):=oS (by obtain ⟨cd,hc,_⟩:=any_some T.hd; rw[hc]; rfl) T.ha T.hn T.ht
  obtain ⟨hp,g,d,t,os⟩:=s
  have L0:=I.type (M:=model prog w)
  have L1:=looks_findIn (M:=model prog w) X T.hg
  have L2:=looks_findIn (M:=model prog w) X T.hk
  have L3:=looks_find (M:=model prog w) X I hf
  have sub:Looks (model prog w) hp (isInstance (.ref x) (.type "BaseException")) true:=L0.andThen (looks_subIn X T.hs)
  have e0:(Value.builtin "BaseException.__getattribute__" == Value.builtin "object.__getattribute__")=false:=by decide +kernel
  have e1:(onTheHeap (Value.ref D)&&Value.builtin "BaseException.__getattribute__" == Value.builtin "object.__getattribute__")=false:=by rw[e0]; rfl
  unfold getAttr? getAttrBy? getAttrBy
  refine wpAny_bind (wpAny_mkText (wpAny_bind (wpAny_attempt (wpAny_holding (wpAny_bind (L0.at (wpAny_bind (L1.at ?_))))))))
  show wpAny _ _ (if (onTheHeap (Value.ref D)&&Value.builtin "BaseException.__getattribute__" == Value.builtin "object.__getattribute__")=true then _ else _) _ _ _
  rw[e1,if_neg Bool.false_ne_true]
  unfold getAttrByItsOwn hookBefore
  refine wpAny_bind ?_
  rw[if_pos (show onTheHeap (Value.ref D)=true from rfl)]
  refine L2.at ?_
  refine wpAny_bind (wpAny_attempt (wpAny_holding ?_))
  unfold callGetattribute
  rw[show (false&&onTheHeap (Value.builtin "BaseException.__getattribute__"))=false from rfl,if_neg Bool.false_ne_true]
  unfold boundAndCalled
  rw[PySem.F.excAttr_ValueError.ga.bind (.ref x)]
  refine wpAny_bind (wpAny_pure ?_)
  show wpAny _ _ (call (.builtin "BaseException.__getattribute__") [.ref x,.str "__class__" t]) _ _ _
  refine wpAny_call (codeAny_call_builtin PySem.F.excAttr_ValueError.ga.plain PySem.F.entry_bexc_ga ?_)
  refine @check_slot (model prog w) _ _ ⟨hp,g,d,t+1,os⟩ "BaseException.__getattribute__" "BaseException" "__getattribute__" (.ref x) [.str "__class__" t] [] _ (by decide +kernel) (by decide +kernel) sub (PySem.F.args_bexc_ga (.ref x) (.str "__class__" t)) ?_
  unfold Builtin.«object.__getattribute__»
  refine wpAny_bind (wpAny_of_eq (a:=((Value.ref x:Value),[Value.str "__class__" t])) (by first|rfl|(simp only[slotArgs]; rfl)) ?_)
  refine wpAny_bind (wpAny_pure (wpAny_bind (L0.at (wpAny_bind (L3.at ?_)))))
  show wpAny _ _ (holding [Value.builtin "object.__class__"] (call (.builtin "getset_descriptor.__get__") [.builtin "object.__class__",.ref x,.ref D]) >>= ret) _ _ _
  refine wpAny_bind (wpAny_holding (wpAny_call (class_get (s:=⟨hp,g,d,t+1,os⟩) (ox:=ox) (od:=od) X I T.hm ?_)))
  refine wpAny_pure ?_
  show wpAny _ _ (handedOut (.ref D)) _ _ _
  rw[handedOut_of (v:=.ref D) rfl]
  first
    | exact wpAny_pure (wpAny_pure h)
    | exact wpAny_pure h
    | exact wpAny_pure (wpAny_bind (wpAny_pure (wpAny_pure h)))
theorem kitE (T:ExcC K D):KitX K (.ref x) (.ref D) (fun h=>InstAt h x ox D od) where
  ty:=fun _ _ _ I=>I.type
  it:=fun _ _ X _=>by
    obtain ⟨cdD,hcD,_⟩:=any_some T.hd
    unfold clsIn at hcD
    split at hcD
    · rename_i c' d' cd' sl' ho
      intro A' Q' E' s' k q
      unfold isType loadHead
      exact wpAny_bind (wpAny_loadPart (k _ _ (X _ _ ho)) (wpAny_pure q))
    · cases hcD
  ne:=fun h tp dd its n sl X htp=>by
    obtain ⟨cdD,hcD,_⟩:=any_some T.hd
    refine Bool.eq_false_iff.mpr fun q=>?_
    have e:D=tp:=Value.ref.inj (beq_iff_eq.mp q)
    subst e
    unfold clsIn at hcD
    split at hcD
    · rename_i c' d' cd' sl' ho
      have z:=(X _ _ ho).symm.trans htp
      cases z
    · cases hcD
  ca:=fun X I k=>we T X I k
end
/-- the dict of an exception stands -/
def XdAt (H:Hp):Option Addr→Prop
  | none=>True
  | some d=>∃fs,H d=some (.xd fs)
def rIsD (K:PySem.W.Frag) (D a:Addr) (dd:Option Addr):List V→Hp→VK→Prop:=fun xs H Q=>∃(c:V) (cv:Value) (b:Bool),xs=[.ref a,c]∧(∀u,L2.RelV c u→u=cv)∧PySem.W.kitOne K (.ref D) cv=some b∧XdAt H dd∧Q (.bl b) H
theorem xd_at {P:Program} {w:World} {H:Hp} {h:Heap} (hok:HOk P w H h) {d:Addr} {fs:List (Str × V)} (e:H d=some (.xd fs)):∃mA,h.Ns1 d mA∧∀f,RelO (fs.lookup f) (mA f):=by
  have x:ObjOk P w H h d (.xd fs):=hok d _ e
  exact x
theorem xx {X:Cx} {a D:Addr} {dd:Option Addr} {oe:Obj} {pn:List (Addr × Obj)} {pins:List (Addr × Obj)} {σ:L2.St} {H:Hp} {s:Shared} (I:L2.Inv (X.suite a ((a,oe)::pn)) pins σ H s) (hz:Zc (.ref D) dd oe) (hf:∃vs,oe.data=.fields vs) (hd:XdAt H dd) :
    ∃od,PySem.W.InstAt s.heap a oe D od:=by
  obtain ⟨hget,_⟩:=I.pin (a,oe) (List.mem_append_left _ List.mem_cons_self)
  obtain ⟨vs,hv⟩:=hf
  cases dd with
  | none=>
    refine ⟨none,?_⟩
    obtain ⟨oc,od,oda,osl⟩:=oe
    obtain ⟨h1,h2⟩:=hz
    dsimp only at h1 h2 hv
    subst h1 h2 hv
    exact ⟨hget,rfl,rfl,trivial⟩
  | some d=>
    obtain ⟨fs,e⟩:=hd
    obtain ⟨mA,hns,_⟩:=xd_at I.hok e
    obtain ⟨o,es,ep,ho,_⟩:=hns
    refine ⟨some o,hget,hz.1,?_,?_⟩
    · unfold PySem.W.notCls
      rw[hv]<;>rfl
    · rw[hz.2]
      exact ho
theorem xy {X:Cx} {a D:Addr} {dd:Option Addr} {oe:Obj} {pn:List (Addr × Obj)} (C:ExcC X.K D) (hz:Zc (.ref D) dd oe) (hf:∃vs,oe.data=.fields vs):CallR (X.suite a ((a,oe)::pn)) (.builtin "isinstance") (rIsD X.K D a dd):=by
  intro pins s σ H xs us Q I r h
  obtain ⟨c,cv,b,rfl,hcv,e,hd,q⟩:=h
  cases r with
  | cons rx rr=>
    cases rr with
    | cons rt rr=>
      cases rr
      cases rx
      have ec:=hcv _ rt
      subst ec
      obtain ⟨od,J⟩:=xx I hz hf hd
      exact PySem.W.kia_one (kitE C) I.kIn J e (fun z=>nomatch z) fun tk=>⟨.bl b,H,I.kept (t':=tk) fun _ _ z=>z,rfl,q⟩
/-- kt: what the class table says; a: where the exception stands; dd: its dict -/
def dJ (a:Addr) (dd:Option Addr) (kt:D→Option Bool):BF:=fun _ ds=>match ds,dd with
  | [.adr b,c],none=>if b=a then (kt c).map .bool else none
  | [.exn b d' _ _,c],some d=>if b=a∧d'=d then (kt c).map .bool else none
  | _,_=>none
theorem cy {X:Cx} {a C:Addr} {dd:Option Addr} {oe:Obj} {pn:List (Addr × Obj)} {kt:D→Option Bool} (hC:ExcC X.K C) (hz:Zc (.ref C) dd oe) (hf:∃vs,oe.data=.fields vs)
    (hk:∀c b,kt c=some b→∃cv,PySem.W.kitOne X.K (.ref C) cv=some b∧∀(μ:Mu) (H:Hp) (v:V),Rep X.K X.mg μ H c v→∀u,L2.RelV v u→u=cv):CallR (X.suite a ((a,oe)::pn)) (.builtin "isinstance") (rB X.K X.mg (dJ a dd kt)):=
  fb (xy hC hz hf) fun xs H Q ⟨μ,S,ds,d,rs,ra,e,q⟩=>by
    unfold dJ at e
    split at e
    · split at e
      · rename_i hb
        subst hb
        obtain ⟨k,hk1,rfl⟩:=Option.map_eq_some_iff.mp e
        obtain ⟨v,w,rfl,r1,r2⟩:=gM ra
        unfold Rep at r1
        subst r1
        obtain ⟨cv,h1,h2⟩:=hk _ k hk1
        exact ⟨w,cv,k,rfl,h2 μ H w r2,h1,trivial,q H _ .rfl (cR _)⟩
      · cases e
    · split at e
      · rename_i hb
        obtain ⟨rfl,rfl⟩:=hb
        obtain ⟨k,hk1,rfl⟩:=Option.map_eq_some_iff.mp e
        obtain ⟨v,w,rfl,r1,r2⟩:=gM ra
        unfold Rep at r1
        obtain ⟨vs,rfl,h3,_,_⟩:=r1
        obtain ⟨cv,h1,h2⟩:=hk _ k hk1
        exact ⟨w,cv,k,rfl,h2 μ H w r2,h1,⟨_,h3⟩,q H _ .rfl (cR _)⟩
      · cases e
    · cases e
def eXf (a:Addr) (dd:Option Addr) (ok:Bool) (f:Str) (ma:ME):ME:=fun env S=>(ma env S).bind fun d S=>match d,dd with
  | .exn b d' ns ds,some d=>if b=a∧d'=d∧ok=true then (match (ns.zip ds).lookup f with
    | some v=>.ok v S
    | none=>.stuck) else .stuck
  | _,_=>.stuck
theorem lY {K:PySem.W.Frag} {mg:Str→Option Value} {μ:Mu} {H:Hp} {g:Str}:∀ {ns:List Str} {ds:List D} {vs:List V} {d:D},RepAll K mg μ H ds vs→(ns.zip ds).lookup g=some d→∃v,(ns.zip vs).lookup g=some v∧Rep K mg μ H d v
  | [],_,_,_,_,h=>by simp at h
  | _::_,[],_,_,_,h=>by simp at h
  | n::ns,d0::ds,_,_,r,h=>by
    unfold RepAll at r
    obtain ⟨v,t,rfl,h1,h2⟩:=r
    rw[List.zip_cons_cons,List.lookup_cons] at h ⊢
    cases e:(g == n) with
    | true=>
      rw[e] at h
      cases h
      exact ⟨v,rfl,h1⟩
    | false=>
      rw[e] at h
      exact lY h2 h
theorem vz {X:Cx} {W:WX} {a C:Addr} {dd:Option Addr} {oe:Obj} {pn:List (Addr × Obj)} {e:Expr} {ma:ME} {pos:Pos} {n:Str} {ok:Bool} (T:ok=true→XfC X.K C∧PySem.W.findIn X.K (.ref C) n=some none)
    (hz:Zc (.ref C) dd oe) (hf:∃vs,oe.data=.fields vs) (he:PE (X.suite a ((a,oe)::pn)) e (tE (X.suite a ((a,oe)::pn)) W ma)) (hb:attributeBase e n X.env (eval e X.env)=eval e X.env:=by rfl) :
    PE (X.suite a ((a,oe)::pn)) (.Attribute e n pos) (tE (X.suite a ((a,oe)::pn)) W (eXf a dd ok n ma)):=by
  cases ok with
  | false=>
    refine ⟨fun pins s σ H Q I h=>?_⟩
    refine attr_of hb (thn (he.run pins s σ H (fun _ _=>False) I ?_) fun u s1 hh=>?_)
    · obtain ⟨env,S,μ,rl,o⟩:=h
      refine ⟨env,S,μ,rl,(Out.bind (R:=fun μ H a b=>Rep X.K X.mg μ H a b) o).mono fun v H1 ⟨μ1,S1,d,st,rs,r,o1⟩=>?_⟩
      split at o1
      · rw[if_neg (fun z=>by cases z.2.2)] at o1
        exact o1.elim
      · exact o1.elim
    · obtain ⟨_,_,_,_,q⟩:=hh
      exact q.elim
  | true=>
    obtain ⟨T1,hno⟩:=T rfl
    refine cA (pe_xf (cls:=.ref C) (d:=dd) T1 hno hz hf he hb) fun σ H Q h=>?_
    obtain ⟨env,S,μ,rl,o⟩:=h
    refine ⟨env,S,μ,rl,(Out.bind (R:=fun μ H a b=>Rep X.K X.mg μ H a b) o).mono fun v H1 ⟨μ1,S1,d,st,rs,r,o1⟩=>?_⟩
    split at o1
    · rename_i b d' ns ds d0
      split at o1
      · rename_i hb
        obtain ⟨rfl,rfl,_⟩:=hb
        unfold Rep at r
        obtain ⟨vs,rfl,h3,n3,h4⟩:=r
        split at o1
        · rename_i dv hl
          obtain ⟨v,hv,rv⟩:=lY h4 hl
          exact ⟨rfl,rfl,_,_,v,rfl,h3,hv,o1 μ1 H1 v .refl rs rv⟩
        · exact o1.elim
      · exact o1.elim
    · exact o1.elim
end DL
namespace DL
open PySem PySem.Spec PyProof.Rows L2 LamX
/-- what is told of an error,by its class and its fields -/
abbrev Hdr:=Str→List (Str × D)→Option D
/-- what the def makes of what the lambda does -/
def fh (hd:Hdr):Res D→Res D
  | .ok d S=>.ok d S
  | .exc e S=>match hd e.cls e.fs with
    | some d=>.ok d S
    | none=>.stuck
  | .stuck=>.stuck
def rp (hd:Hdr) (m:ME):ME:=fun env S=>fh hd (m env S)
/-- an error's dict and its fields -/
def DdR (K:PySem.W.Frag) (mg:Str→Option Value) (μ:Mu) (H:Hp) (fs:List (Str × D)) (dd:Option Addr):Prop:=
  (fs=[]∧dd=none)∨fs≠[]∧∃d vs,dd=some d∧H d=some (.xd ((fs.map (·.1)).zip vs))∧RepAll K mg μ H (fs.map (·.2)) vs
/-- .. as a value -/
def exD (ea:Addr) (fs:List (Str × D)):Option Addr→D
  | none=>.adr ea
  | some d=>.exn ea d (fs.map (·.1)) (fs.map (·.2))
/-- the dict is there where fields are -/
def DdK (fs:List (Str × D)) (dd:Option Addr):Prop:=(fs=[]∧dd=none)∨fs≠[]∧∃d,dd=some d
theorem DdR.k {K:PySem.W.Frag} {mg:Str→Option Value} {μ:Mu} {H:Hp} {fs:List (Str × D)} {dd:Option Addr} (h:DdR K mg μ H fs dd):DdK fs dd:=by
  rcases h with h|⟨h,d,_,e,_⟩
  · exact .inl h
  · exact .inr ⟨h,d,e⟩
theorem xz {K:PySem.W.Frag} {mg:Str→Option Value} {μ:Mu} {H:Hp} {S:Sto} (rs:RelS K mg μ H S) {d:Addr} {fs:List (Str × V)} (e:H d=some (.xd fs)):d∉μ:=fun z=>by
  rcases z with z|z
  · obtain ⟨l,hl⟩:=List.mem_iff_getElem?.mp z
    have hlt:l<S.length:=by
      rw[rs.len]
      exact (List.getElem?_eq_some_iff.mp hl).1
    obtain ⟨a,h1,h2⟩:=rs.at_ l S[l] (List.getElem?_eq_getElem hlt)
    rw[hl] at h1
    cases h1
    cases ho:S[l] with
    | lst xs=>
      rw[ho] at h2
      obtain ⟨vs,h3,_⟩:=h2
      rw[e] at h3
      cases h3
    | any=>
      rw[ho] at h2
      obtain ⟨u,h3,t⟩:=h2
      rw[e] at h3
      cases h3
      rcases t with ⟨_,t⟩|⟨_,t⟩|⟨_,t⟩<;>cases t
    | ins C fs=>
      rw[ho] at h2
      obtain ⟨_,_,_,_,h3,_⟩:=h2
      rw[e] at h3
      cases h3
    | dct t kvs=>
      rw[ho] at h2
      cases t with
      | false=>
        obtain ⟨_,_,⟨h3,_⟩,_⟩:=h2
        rw[e] at h3
        cases h3
      | true=>
        obtain ⟨_,_,⟨h3,_⟩,_⟩:=h2
        rw[e] at h3
        cases h3
    | fdc t kvs=>
      rw[ho] at h2
      cases t with
      | false=>
        obtain ⟨_,_,⟨⟨_,h3⟩,_⟩,_⟩:=h2
        rw[e] at h3
        cases h3
      | true=>
        obtain ⟨_,_,⟨⟨_,h3⟩,_⟩,_⟩:=h2
        rw[e] at h3
        cases h3
  · obtain ⟨u,h1,h2⟩:=rs.hid d z
    rw[e] at h1
    cases h1
    rcases h2 with ⟨_,h2⟩|⟨_,h2⟩|⟨_,h2⟩<;>cases h2
theorem DdR.rep {K:PySem.W.Frag} {mg:Str→Option Value} {μ:Mu} {H:Hp} {S:Sto} (rs:RelS K mg μ H S) {fs:List (Str × D)} {dd:Option Addr} (h:DdR K mg μ H fs dd) (ea:Addr):Rep K mg μ H (exD ea fs dd) (.ref ea):=by
  rcases h with ⟨_,rfl⟩|⟨_,d,vs,rfl,h1,h2⟩
  · unfold exD Rep
    rfl
  · unfold exD Rep
    exact ⟨vs,rfl,h1,xz rs h1,h2⟩
def Ek (K:PySem.W.Frag) (mg:Str→Option Value) (hd:Hdr) (Q:VK):XK:=fun cls d H'=>∃μ S C D fs r,mg C=some (.ref D)∧cls=.ref D∧DdR K mg μ H' fs d∧hd C fs=some r∧RelS K mg μ H' S∧∀μ' H'' v,Step μ H' μ' H''→RelS K mg μ' H'' S→Rep K mg μ' H'' r v→Q v H''
def TTk (K:PySem.W.Frag) (mg:Str→Option Value) (hd:Hdr):(XK→Hp→VK→Prop)→Hp→VK→Prop:=fun tl H Q=>tl (Ek K mg hd Q) H Q
theorem kq {K:PySem.W.Frag} {mg:Str→Option Value} {μ:Mu} {H H1:Hp} {S:Sto} (rs:RelS K mg μ H S) (e:ExtN H H1) (t:Tabs (tbs K) H1):Step μ H μ H1∧RelS K mg μ H1 S:=by
  have st:Step μ H μ H1:=⟨⟨⟨⟨[],by simp⟩,fun _ h=>.inl h,fun a o h _ nt=>e a o h nt⟩,fun a _ _ h=>e a _ h fun _ z=>nomatch z⟩,rfl,fun a u _ h nt=>e a u h nt⟩
  refine ⟨st,rs.len,rs.nd,rs.dis,fun a ha=>?_,fun l o el=>?_,t⟩
  · obtain ⟨u,h1,h2⟩:=rs.hid a ha
    exact ⟨u,e a u h1 h2.ntb,h2⟩
  · obtain ⟨a,h1,h2⟩:=rs.at_ l o el
    refine ⟨a,h1,h2.step st.toStp fun u hu=>e a u hu fun ps z=>?_⟩
    subst z
    exact h2.nt hu
/-- the reading of a whole call -/
theorem t_kind {X:Cx} {W:WX} {hd:Hdr} {m:ME} {σ:L2.St} {H:Hp} {Q:VK} (h:tE X W (rp hd m) σ H Q) :
    tLam (tbs X.K) (TTk X.K X.mg hd) (fun E=>tE X (fun c d _ H=>E c d H) m) σ H Q:=by
  obtain ⟨env,S,μ,rl,o⟩:=h
  refine ⟨rl.sto.tab,fun H1 e t=>?_⟩
  obtain ⟨st,rs⟩:=kq rl.sto e t
  refine ⟨env,S,μ,⟨rl.env.step st,rs⟩,?_⟩
  have o:=Out.of_step st o
  unfold rp fh at o
  cases hm:m env S with
  | ok d S'=>rw[hm] at o; exact o
  | stuck=>rw[hm] at o; exact o.elim
  | exc x S'=>
    rw[hm] at o
    simp only at o
    split at o
    · rename_i d e2
      intro μ' H' cls dd st' rs' rx
      obtain ⟨C,h1,h2,h3⟩:=rx
      exact ⟨μ',S',x.cls,C,x.fs,d,h1,h2,h3,e2,rs',fun μ2 H2 v s2 r2 rv=>o μ2 H2 v (st'.trans s2) r2 rv⟩
    · exact o.elim
/-- what the suite is asked -/
def tsK (K:PySem.W.Frag) (mg:Str→Option Value) (hd:Hdr) (i:Nat) (a:Addr) (cls:Value) (d:Option Addr):TS:=fun D σ H=>(∃σ0:L2.St,σ=σ0.set i (some (.ref a)))∧Ek K mg hd D.rt cls d H
theorem uf {X:Cx} {Ng:List Str} {x a e:Str} {sg:Scope} {g CS:Addr} {cdg:Value} {b₀:Stmt} {suite:List Stmt} {q:Str} {hd:Hdr} {i:Nat} {ec:Str} {sm:Str→Addr→Option Addr→MS} {p1 p2 p3 p4 p7 p8:Pos}
    (hN:Ng.Nodup) (hi:Ng[i]?=some e) (hln:sg.names.lookup e=some .local) (hge:sg.names.lookup ec=some .globalImplicit) (hme:X.mg ec=some (.ref CS)) (hde:(ec == ("__debug__":Str))=false) (h0:∀f:Addr,(L2.start Ng [V.ref f])[0]?=some (some (V.ref f)))
    (hx:∀C fs r,hd C fs=some r→∀Da,X.mg C=some (.ref Da)→PySem.W.exmOne X.K (.ref Da) (.ref CS)=some true)
    (hs:∀(s:Shared) (H:Hp) (ea Da:Addr) (oe:Obj) (pn:List (Addr × Obj)) (C:Str) (fs:List (Str × D)) (dd:Option Addr) (r:D),X.mg C=some (.ref Da)→hd C fs=some r→DdK fs dd→Zc (.ref Da) dd oe→(∃vs,oe.data=.fields vs)→
      PSs ((cxOf C8.CX0 X.prog X.w X.K X.mg X.base Ng x sg g cdg X.A X.stack s H C8.E0).nox.suite ea ((ea,oe)::pn)) (b₀::suite) (tS ((cxOf C8.CX0 X.prog X.w X.K X.mg X.base Ng x sg g cdg X.A X.stack s H C8.E0).nox.suite ea ((ea,oe)::pn)) W0 (sm C ea dd)))
    (hsem:∀C fs (ea:Addr) (dd:Option Addr) (S:Sto) r,hd C fs=some r→DdK fs dd→sm C ea dd ((List.replicate Ng.length none).set i (some (exD ea fs dd))) S=.ret r S) :
    GivesTo X Ng x sg g cdg [.Try [.Return (some (.Call (.Name a p1) [] [] p2)) p3] [.ExceptHandler (some (.Name ec p4)) (some e) (b₀::suite) p7] [] [] p8] a q (TTk X.K X.mg hd):=by
  intro f c' s H Q tl act hc h
  have hgl:Gl (cxOf C8.CX0 X.prog X.w X.K X.mg X.base Ng x sg g cdg X.A X.stack s H C8.E0).nox ec:=hge
  refine ⟨_,pss_one (ps_try_as (X:=(cxOf C8.CX0 X.prog X.w X.K X.mg X.base Ng x sg g cdg X.A X.stack s H C8.E0).nox) (c:=.ref CS) (i:=i) (ts:=tsK X.K X.mg hd i)
      (tb:=fun W D σ H=>∃Ech:XK,(∀cls d σ' H',Ech cls d H'→W cls d σ' H')∧σ[0]?=some (some (.ref f))∧H c'=some (CodeO c' q)∧tl Ech H D.rt)
      rfl rfl hN hi hln ⟨hgl,hde,.inl hme⟩ LamX.takes0 (fun W pn xe tk _=>?_) (fun ea oe cls d pn hz hf=>?_)),?_⟩
  · refine ⟨fun pins s' σ H' D I h'=>?_⟩
    obtain ⟨Ech,hW,h1,h2,h3⟩:=h'
    have hp:=act W pn xe Ech p1 p2 tk hW
    have hq:=pss_one (ps_ret (pos:=p3) hp)
    exact hq.run pins s' σ H' D I ⟨h1,h2,h3⟩
  · refine ⟨fun pins s' σ H' D I h'=>?_⟩
    obtain ⟨⟨σ0,rfl⟩,μ,S,C,Da,fs,r,m1,rfl,hdd,m4,rs,hq⟩:=h'
    have hq0:=hs s H ea Da oe pn C fs d r m1 m4 hdd.k hz hf
    have hil:i<Ng.length:=(List.getElem?_eq_some_iff.mp hi).1
    have hsl:σ0.length=Ng.length:=by
      have:=I.len
      rw[List.length_set] at this
      exact this
    refine hq0.run pins s' _ H' D I ⟨(List.replicate Ng.length none).set i (some (exD ea fs d)),S,μ,⟨⟨by simp[hsl],fun j d1 ej=>?_⟩,rs⟩,?_⟩
    · by_cases hj:j=i
      · subst hj
        rw[List.getElem?_set_self (by simpa using hil)] at ej
        cases ej
        exact ⟨.ref ea,by rw[List.getElem?_set_self (by rw[hsl]; exact hil)],hdd.rep rs ea⟩
      · rw[List.getElem?_set_ne (Ne.symm hj)] at ej
        rw[List.getElem?_replicate] at ej
        split at ej<;>cases ej
    · rw[hsem C fs ea d S r m4 hdd.k]
      exact fun μ' H'' v st rs' rv=>hq μ' H'' v st rs' rv
  · refine ⟨Ek X.K X.mg hd Q,fun cls d σ' H' he=>?_,h0 f,hc,h⟩
    obtain ⟨μ,S,C,Da,fs,r,m1,rfl,hdd,m4,rs,hq⟩:=he
    exact ⟨true,hx C fs r m4 Da m1,fun _ ea hea=>⟨⟨σ',rfl⟩,μ,S,C,Da,fs,r,m1,rfl,hdd,m4,rs,hq⟩,fun z=>by cases z⟩
end DL
namespace DL
open PySem PySem.Spec PyProof.Rows L2 LamX
/-- here lambdas may be made -/
structure LamHere (X:Cx) (p:Str × Option Str):Prop where
  tb:TabB X.base X.mg (He.cT X.K p).1 (He.cT X.K p).2
  code:X.env.code=.ref (He.cT X.K p).1
  mem:((He.cT X.K p).2,X.env.qual++"<lambda>")∈tbs X.K
  uniq:∀r∈tbs X.K,r.1=(He.cT X.K p).2→r.2=X.env.qual++"<lambda>"
theorem m9 {X:Cx} {K:PySem.W.Frag} {p:Str × Option Str} {x qual:Str} {params:Arguments} {body:List Stmt} {scope:Scope} {fd:FuncData} (F:FunD K x qual params body scope [] [] (He.fAd K p) fd) (hK:X.K=K) (tb:TabB X.base X.mg (He.cT K p).1 (He.cT K p).2)
    (hc:X.env.code=fd.code) (hq:X.env.qual=qual++".<locals>.") {q:Str} (mem:((He.cT K p).2,q)∈tbs K) (uniq:∀r∈tbs K,r.1=(He.cT K p).2→r.2=q) (hqq:qual++".<locals>."++"<lambda>"=q:=by decide +kernel):LamHere X p:=by
  subst hK hqq
  obtain ⟨oc,od,dV,kV,doc,pm,an,cdv,ct,osl,rfl,lk,hcd,_⟩:=F.ex
  obtain ⟨c,rfl⟩:=He.codeIn_ref hcd
  have e:=He.codeOf_eq lk (c:=c) rfl
  refine ⟨tb,?_,by rw[hq]; exact mem,fun r hr h=>by rw[hq]; exact uniq r hr h⟩
  rw[hc]
  show Value.ref c=.ref (He.codeOf X.K p)
  rw[e]
/-- a def that tells the error of what it is handed -/
structure KindF (P:Program) (w:World) (K:PySem.W.Frag) (mg:Str→Option Value) (base:Heap) (k:Nat) (x:Str) (g:Addr) (hd:Hdr):Prop where
  ex:∃(pg:Arguments) (bg:List Stmt) (sg:Scope) (dV kV doc pm cdv ct oc:Value) (an od:Option Addr) (osl:Array (Option Value)) (Ng:List Str) (a:Str),
    K.lookup g=some ⟨oc,od,.func (PySem.W.fnOf x x pg bg sg dV kV doc pm an cdv ct),osl⟩∧PySem.W.codeIn K cdv x=true∧L2.Binds K (PySem.W.fnOf x x pg bg sg dV kV doc pm an cdv ct) [a] []∧FnScope Ng [a] sg∧Ng[0]?=some a∧Vis sg a∧
    (a == ("__debug__":Str))=false∧(a == ("__classdict__":Str))=false∧
    ∀X:Cx,X.prog=P→X.w=w→X.K=K→X.mg=mg→X.base=base→Room (k+2) X.A→∀q,GivesTo X Ng x sg g cdv bg a q (TTk K mg hd)
  kp:PySem.W.keepIn K (.ref g)=true
end DL
namespace DL
open PySem PySem.Spec PyProof.Rows L2 LamX
theorem ru1 {k:Nat} {A:Around} (r:Room k A):A.units+1<cLine:=by have:=r.un; omega
theorem cS {k:Nat} {A:Around} (r:Room k A):A.units+64<cLine:=by have:=r.un; omega
theorem cU {k:Nat} {A:Around} (r:Room k A):A.units+65<cLine:=by have:=r.un; omega
/-- a def,whatever its record -/
def FnE (P:Program) (w:World) (K:PySem.W.Frag) (mg:Str→Option Value) (base:Heap) (k:Nat) (f:Addr) (ps:List Str) (m:MF):Prop:=∃fd,FnM P w K mg base k f fd ps m
theorem au {P:Program} {w:World} {K:PySem.W.Frag} {mg:Str→Option Value} {base:Heap} {x qual:Str} {st:Stmt} {f:Addr} {fd:FuncData} {N ps:List Str} {k n:Nat} {m:MS} (F:FunD K x qual (defArgs st) (defBody st) (defScope st) [] [] f fd) (S:FnScope N ps (defScope st)) (hn:N.length - ps.length=n)
    (hb:∀(kV doc pm:Value) (an:Option Addr) (cdv ct:Value) (us:List Value),us.length=ps.length→bindArgs (PySem.W.fnOf x qual (defArgs st) (defBody st) (defScope st) .none kV doc pm an cdv ct) ⟨us,[]⟩=pure (ps.zip us))
    (hbody:∀(cdv:Value) (A:Around) (outer:List Env) (s:Shared) (H:Hp) (E:XK),fd.code=cdv→PassesOwn (model P w) (cxOf (L2N.CX P w) P w K mg base N qual (defScope st) f cdv A outer s H E).A (cxOf (L2N.CX P w) P w K mg base N qual (defScope st) f cdv A outer s H E).env (cxOf (L2N.CX P w) P w K mg base N qual (defScope st) f cdv A outer s H E).xe→
      Room k (cxOf (L2N.CX P w) P w K mg base N qual (defScope st) f cdv A outer s H E).A→∀W,Takes (cxOf (L2N.CX P w) P w K mg base N qual (defScope st) f cdv A outer s H E) W→PSs (cxOf (L2N.CX P w) P w K mg base N qual (defScope st) f cdv A outer s H E) (defBody st) (tS (cxOf (L2N.CX P w) P w K mg base N qual (defScope st) f cdv A outer s H E) W m)):FnM P w K mg base (k+1) f fd ps (bG n m):=by
  have b:Binds K fd ps []:=F.bindsN hb
  obtain ⟨oc,od,dV,kV,doc,pm,an,cdv,ct,osl,rfl,lk,hcd,_⟩:=F.ex
  refine ⟨fn_of lk hcd S (fun vs H Q E h=>zi h) (fun A outer s H vs Q E hr h=>?_),F.kp,b⟩
  refine ⟨_,hbody cdv A outer s H E rfl (passes_of rfl) hr (fun cls d _ H=>E cls d H) (takes_of rfl rfl rfl rfl),?_⟩
  obtain ⟨ds,So,μ,rs,ra,o⟩:=h
  unfold chk at o
  split at o
  · rename_i hl
    have e0:n=N.length - ds.length:=by rw[hl]; exact hn.symm
    refine ⟨ds.map some++List.replicate n none,So,μ,⟨by rw[e0]; exact uX ra,rs⟩,?_⟩
    unfold bG at o
    cases hm:m (ds.map some++List.replicate n none) So with
    | next e S1=>rw[hm] at o; exact fun μ' H' σ' st re rs'=>o μ' H' .non st rs' mS
    | ret d S1=>rw[hm] at o; exact fun μ' H' v st rs' r=>o μ' H' v st rs' r
    | exc e v S1=>rw[hm] at o; exact fun μ' H' σ' c d st re rs' r=>o μ' H' c d st rs' r
    | brk e S1=>rw[hm] at o; exact o.elim
    | cont e S1=>rw[hm] at o; exact o.elim
    | stuck=>rw[hm] at o; exact o
  · exact o.elim
section
variable {X:Cx} {W:WX} {k:Nat} {f C:Addr} {ps:List Str} {m mi:MF} {x nm cn:Str} {p pos apos:Pos} {e o:Expr} {es:List Expr} {r:MA} {ma mv:ME}
theorem bq {i:Int} (hm:∃t,X.mg x=some (.int i t)) (hg:Gl X x:=by rfl) (hd:(x == ("__debug__":Str))=false:=by decide):PE X (.Name x pos) (tE X W (eC (.int i))):=hm.elim fun _ h=>ze hg h hd
theorem zu {i:Str} (hm:∃t,X.mg x=some (.str i t)) (hg:Gl X x:=by rfl) (hd:(x == ("__debug__":Str))=false:=by decide):PE X (.Name x pos) (tE X W (eC (.str i))):=hm.elim fun _ h=>zf hg h hd
theorem aN (F:FnE X.prog X.w X.K X.mg X.base k f ps m) (hr:Room k X.A) (hm:X.mg x=some (.ref f)) (tk:Takes X W) (ha:PA X (e::es) (tAs X W r)) (hg:Gl X x:=by rfl) (hdb:(x == ("__debug__":Str))=false:=by decide)
    (he:starEach (e::es) X.env=(false,eval e X.env)::starEach es X.env:=by rfl) (hpl:(backTo pos (starEach es X.env)).any (·.1)=false:=by rfl) :
    PE X (.Call (.Name x p) (e::es) [] pos) (tE X W (aS ps.length m r)):=F.elim fun _ F=>zj F hr hg hm tk ha hdb he hpl
theorem dQ {pl:Sem Bool} (he:PE X o (tE X W ma)) (hC:X.mg cn=some (.ref C)) (c:Cls X.K C) (hm:Meth X.K C nm f) (F:FnE X.prog X.w X.K X.mg X.base k f ps m) (hr:Room k X.A) (tk:Takes X W) (ha:PA X (e::es) (tAs X W r))
    (hst:starEach (e::es) X.env=(false,eval e X.env)::starEach es X.env:=by rfl) (hpl:(backTo pos (starEach es X.env)).any (·.1)=false:=by rfl)
    (ht:eval (.Call (.Attribute o nm apos) (e::es) [] pos) X.env=(do
      let ov ←eval o X.env
      standAt apos.atName
      let (f,first) ←holding [ov] (getMethod ov nm pl)
      callWith pos f first (backTo pos (starEach (e::es) X.env)) (backToKw pos (keywordEach [] X.env))):=by rfl) :
    PE X (.Call (.Attribute o nm apos) (e::es) [] pos) (tE X W (dG cn nm ps.length m ma r)):=F.elim fun _ F=>zk he hC c hm F hr tk ha hst hpl ht
theorem rq {pl:Sem Bool} (he:PE X o (tE X W ma)) (hC:X.mg cn=some (.ref C)) (c:Cls X.K C) (hm:Meth X.K C nm f) (F:FnE X.prog X.w X.K X.mg X.base k f ps m) (hr:Room k X.A) (tk:Takes X W)
    (ht:eval (.Call (.Attribute o nm apos) [] [] pos) X.env=(do
      let ov ←eval o X.env
      standAt apos.atName
      let (f,first) ←holding [ov] (getMethod ov nm pl)
      callWith pos f first (backTo pos (starEach [] X.env)) (backToKw pos (keywordEach [] X.env))):=by rfl) :
    PE X (.Call (.Attribute o nm apos) [] [] pos) (tE X W (dG cn nm ps.length m ma aJ)):=F.elim fun _ F=>xo he hC c hm F hr tk ht
theorem qP (hC:X.mg cn=some (.ref C)) (M:Mk X.K C f) (F:FnE X.prog X.w X.K X.mg X.base k f ps mi) (hr:Room (k+1) X.A) (tk:Takes X W) (ha:PA X (e::es) (tAs X W r)) (hg:Gl X cn:=by rfl) (hdb:(cn == ("__debug__":Str))=false:=by decide)
    (he:starEach (e::es) X.env=(false,eval e X.env)::starEach es X.env:=by rfl) (hpl:(backTo pos (starEach es X.env)).any (·.1)=false:=by rfl) :
    PE X (.Call (.Name cn p) (e::es) [] pos) (tE X W (mt cn ps.length mi r)):=F.elim fun _ F=>zm hC M F hr hg tk ha hdb he hpl
end
end DL
namespace DL
open PySem PySem.Spec PyProof.Rows L2 LamX
theorem b9:bootBuiltins "len"=some (.builtin "len"):=by decide +kernel
theorem aM:bootBuiltins "isinstance"=some (.builtin "isinstance"):=by decide +kernel
theorem yA:bootBuiltins "min"=some (.builtin "min"):=by decide +kernel
theorem nA:bootBuiltins "all"=some (.builtin "all"):=by decide +kernel
theorem fV:bootBuiltins "sorted"=some (.builtin "sorted"):=by decide +kernel
theorem yB:bootBuiltins "int"=some (.type "int"):=by decide +kernel
theorem zv:bootBuiltins "bool"=some (.type "bool"):=by decide +kernel
theorem ug:bootBuiltins "str"=some (.type "str"):=by decide +kernel
theorem bS:bootBuiltins "tuple"=some (.type "tuple"):=by decide +kernel
theorem qQ:bootBuiltins "list"=some (.type "list"):=by decide +kernel
theorem zw:bootBuiltins "dict"=some (.type "dict"):=by decide +kernel
theorem oU:bootBuiltins "ValueError"=some (.type "ValueError"):=by decide +kernel
theorem pB {X:Cx} {W:WX} {ss:List Stmt}:PSs X ss (tS X W jP):=⟨fun _ _ _ _ _ _ ⟨_,_,_,_,o⟩=>o.elim⟩
/-- what isinstance tells of an error of the class C -/
def ktK (C:Str):D→Option Bool
  | .glo y=>if kinds.contains y=true then some (decide (y=C)) else none
  | .ty n=>if n="ValueError" then some true else none
  | _=>none
/-- what is told of an error -/
def hdOf (cs:List Str):Hdr:=fun C fs=>if cs.contains C=true∧fs.map (·.1)=fF C then some (if fs=[] then .str C else .tup (.str C::(fs.map (·.2)).reverse)) else none
/-- what the head tells of the classes cs -/
structure uh (K:PySem.W.Frag) (mg:Str→Option Value) (cs:List Str):Prop where
  gl:∀y∈kinds,mg y=some (.ref (He.ga K y))
  air:mg "AirError"=some (.ref (He.ga K "AirError"))
  kit:∀C∈cs,∀y∈kinds,PySem.W.kitOne K (.ref (He.ga K C)) (.ref (He.ga K y))=some (decide (y=C))
  val:∀C∈cs,PySem.W.kitOne K (.ref (He.ga K C)) (.type "ValueError")=some true
  exm:∀C∈cs,PySem.W.exmOne K (.ref (He.ga K C)) (.ref (He.ga K "AirError"))=some true
  exc:∀C∈cs,ExcC K (He.ga K C)
  sub:∀C∈cs,C∈kinds
  fld:∀C∈cs,∀n∈fF C,PySem.W.findIn K (.ref (He.ga K C)) n=some none
theorem hk_of {K:PySem.W.Frag} {mg:Str→Option Value} {cs:List Str} (F:uh K mg cs) {C:Str} (hC:C∈cs):∀c b,ktK C c=some b→∃cv,PySem.W.kitOne K (.ref (He.ga K C)) cv=some b∧∀(μ:Mu) (H:Hp) (v:V),Rep K mg μ H c v→∀u,L2.RelV v u→u=cv:=by
  intro c b e
  cases c with
  | glo y=>
    unfold ktK at e
    dsimp only at e
    split at e
    · rename_i hy
      have hy:y∈kinds:=List.contains_iff_mem.mp hy
      cases e
      refine ⟨_,F.kit C hC y hy,fun μ H v r u ru=>?_⟩
      unfold Rep at r
      obtain ⟨a,rfl,ha⟩:=r
      rw[F.gl y hy] at ha
      cases ha
      exact ru
    · cases e
  | ty n=>
    unfold ktK at e
    dsimp only at e
    split at e
    · rename_i hn
      subst hn
      cases e
      refine ⟨_,F.val C hC,fun μ H v r u ru=>?_⟩
      unfold Rep at r
      subst r
      exact ru
    · cases e
  | _=>cases e
theorem v0 {K:PySem.W.Frag} {x:Str} (h:(He.Fa.exc x).ok K=true):ExcF K (He.ga K x):=let ⟨a,b,c,d⟩:=He.exc_ok h; ⟨a,b,c,d⟩
theorem yC {P:Program} {w:World} {H:Hp} {s:Shared} {e:Value} {s':Shared} (h:L2N.CX P w [] H s (fun _ _ _=>False) e s'):False:=by
  obtain ⟨_,_,_,_,_,_,_,_,_,_,_,_,z⟩:=h
  exact z.elim
theorem lZ {K:PySem.W.Frag} {mg:Str→Option Value} {μ:Mu} {H:Hp}:∀ns:List Int,RepAll K mg μ H (ns.map .int) (ns.map V.int)
  | []=>.nil
  | n::ns=>.cons (az n) (lZ ns)
/-- where the law begins -/
theorem yD {K:PySem.W.Frag} {mg:Str→Option Value} {H:Hp} {a:Addr} {ns:List Int} {m:MF} (hS:SqL K H a (ns.map V.int)) (hT:∀p∈tbs K,H p.1=some (.tbl #[])) (hL:∃S,m [.ro (ns.map .int)] []=.ok (.bool true) S):spD K mg 1 m [.ref a] H (fun v _=>v=.bl true) fun _ _ _=>False:=by
  obtain ⟨S,hL⟩:=hL
  have nm:∀b:Addr,b∉(⟨[],[]⟩:Mu):=fun b z=>z.elim (fun z=>nomatch z) fun z=>nomatch z
  refine ⟨[.ro (ns.map .int)],[],⟨[],[]⟩,⟨rfl,List.nodup_nil,(fun _ h=>by cases h),(fun _ h=>by cases h),(fun l o e=>by simp at e),fun p hp=>TabS.nil (hT p hp)⟩,.cons ?_ .nil,?_⟩
  · unfold Rep
    refine ⟨a,ns.map V.int,rfl,?_,lZ ns⟩
    rcases hS with h|h
    · exact .inl ⟨h,nm a⟩
    · exact .inr (.inr h)
  · have e:chk 1 m [.ro (ns.map .int)] []=.ok (.bool true) S:=by
      unfold chk
      exact hL
    rw[e]
    intro μ' H' v st rs r
    have r:Rep K mg μ' H' (.bool true) v:=r
    unfold Rep at r
    exact r
theorem zx {K:PySem.W.Frag} {D:Addr} (h:excB K D=true):ExcC K D:=by
  unfold excB at h
  simp only[Bool.and_eq_true,decide_eq_true_eq] at h
  obtain ⟨⟨⟨⟨⟨⟨⟨h1,h2⟩,h3⟩,h4⟩,h5⟩,h6⟩,h7⟩,h8⟩:=h
  exact ⟨He.eqO_ok h1,He.eqO_ok h2,h3,h4,He.eqO_ok h5,He.eqO_ok h6,h7,h8⟩
theorem pC {K:PySem.W.Frag} (h:uO K=true):(∀p∈lamDefs,((He.cT K p.1).2,p.2)∈tbs K)∧∀p∈lamDefs,∀r∈tbs K,r.1=(He.cT K p.1).2→r.2=p.2:=by
  refine ⟨fun p hp=>List.mem_map.mpr ⟨p,hp,rfl⟩,fun p hp r hr e=>?_⟩
  unfold uO at h
  simp only[List.all_eq_true,Bool.or_eq_true,Bool.not_eq_true',decide_eq_false_iff_not,decide_eq_true_eq] at h
  rcases h p hp r hr with z|z
  · exact absurd e z
  · exact z
theorem wf {K:PySem.W.Frag} {h:Heap} {mg:Str→Option Value} {cs:List Str} (X:K.In h) (G:h.Ns mainGlobals mg) (hx:pv K cs=true) (h1:∀y∈kinds,(He.Fa.glo y).ok K=true) (h2:(He.Fa.glo "AirError").ok K=true) (h3:∀C∈cs,(He.Fa.exm C "AirError" true).ok K=true):uh K mg cs:=by
  unfold pv at hx
  simp only[List.all_eq_true,Bool.and_eq_true,decide_eq_true_eq] at hx
  exact ⟨fun y hy=>He.glo_ok X G (h1 y hy),He.glo_ok X G h2,fun C hC y hy=>(hx C hC).1.1.1.2 y hy,fun C hC=>(hx C hC).1.1.2,fun C hC=>He.exm_ok (h3 C hC),fun C hC=>zx (hx C hC).1.2,fun C hC=>List.contains_iff_mem.mp (hx C hC).1.1.1.1,fun C hC n hn=>He.eqO_ok ((hx C hC).2 n hn)⟩
end DL
namespace DL
open PySem PySem.Spec PyProof.Rows L2 LamX
@[simp] theorem bind_ok {α β:Type} (a:α) (S:Sto) (f:α→Sto→Res β):Res.bind (.ok a S) f=f a S:=rfl
@[simp] theorem bind_exc {α β:Type} (e:XV) (S:Sto) (f:α→Sto→Res β):Res.bind (.exc e S) f=.exc e S:=rfl
@[simp] theorem bind_stuck {α β:Type} (f:α→Sto→Res β):Res.bind (.stuck:Res α) f=.stuck:=rfl
@[simp] theorem bZ {α β:Type} (a:α) (S:Sto) (f:α→Sto→Res β):Res.bindS (.ok a S) f=f a S:=rfl
@[simp] theorem bindS_exc {α β:Type} (e:XV) (S:Sto) (f:α→Sto→Res β):Res.bindS (.exc e S) f=.stuck:=rfl
@[simp] theorem Aw {α β:Type} (f:α→Sto→Res β):Res.bindS (.stuck:Res α) f=.stuck:=rfl
@[simp] theorem rs_ok {α:Type} (env:En) (a:α) (S:Sto) (k:α→Sto→RS):Res.rs env (.ok a S) k=k a S:=rfl
@[simp] theorem rs_exc {α:Type} (env:En) (e:XV) (S:Sto) (k:α→Sto→RS):Res.rs env (.exc e S) k=.exc e env S:=rfl
@[simp] theorem rs_stuck {α:Type} (env:En) (k:α→Sto→RS):Res.rs env (.stuck:Res α) k=.stuck:=rfl
@[simp] theorem then_next (e:En) (S:Sto) (k:MS):RS.andThen (.next e S) k=k e S:=rfl
@[simp] theorem then_brk (e:En) (S:Sto) (k:MS):RS.andThen (.brk e S) k=.brk e S:=rfl
@[simp] theorem then_cont (e:En) (S:Sto) (k:MS):RS.andThen (.cont e S) k=.cont e S:=rfl
@[simp] theorem then_ret (d:D) (S:Sto) (k:MS):RS.andThen (.ret d S) k=.ret d S:=rfl
@[simp] theorem then_exc (x:XV) (e:En) (S:Sto) (k:MS):RS.andThen (.exc x e S) k=.exc x e S:=rfl
@[simp] theorem then_stuck (k:MS):RS.andThen .stuck k=.stuck:=rfl
@[simp] theorem ofO_some {α:Type} (S:Sto) (a:α):ofO S (some a)=.ok a S:=rfl
@[simp] theorem ofO_none {α:Type} (S:Sto):ofO S (none:Option α)=.stuck:=rfl
@[simp] theorem ofG_some (p:En × Sto):ofG (some p)=.next p.1 p.2:=rfl
@[simp] theorem ofG_none:ofG none=.stuck:=rfl
@[simp] theorem vt_none  : vt (.none)=.none:=rfl
@[simp] theorem view0_none (S:Sto)  : view0 S (.none)=.none:=rfl
@[simp] theorem view_none (S:Sto)  : view S (.none)=.none:=rfl
@[simp] theorem vt_bool (b:Bool):vt (.bool b)=.bool b:=rfl
@[simp] theorem view0_bool (S:Sto) (b:Bool):view0 S (.bool b)=.bool b:=rfl
@[simp] theorem view_bool (S:Sto) (b:Bool):view S (.bool b)=.bool b:=rfl
@[simp] theorem vt_int (b:Int):vt (.int b)=.int b:=rfl
@[simp] theorem view0_int (S:Sto) (b:Int):view0 S (.int b)=.int b:=rfl
@[simp] theorem view_int (S:Sto) (b:Int):view S (.int b)=.int b:=rfl
@[simp] theorem vt_str (b:Str):vt (.str b)=.str b:=rfl
@[simp] theorem view0_str (S:Sto) (b:Str):view0 S (.str b)=.str b:=rfl
@[simp] theorem view_str (S:Sto) (b:Str):view S (.str b)=.str b:=rfl
@[simp] theorem vt_ty (b:String):vt (.ty b)=.ty b:=rfl
@[simp] theorem view0_ty (S:Sto) (b:String):view0 S (.ty b)=.ty b:=rfl
@[simp] theorem view_ty (S:Sto) (b:String):view S (.ty b)=.ty b:=rfl
@[simp] theorem vt_tup (b:List D):vt (.tup b)=.tup b:=rfl
@[simp] theorem view0_tup (S:Sto) (b:List D):view0 S (.tup b)=.tup b:=rfl
@[simp] theorem view_tup (S:Sto) (b:List D):view S (.tup b)=.tup b:=rfl
@[simp] theorem vt_lst (b:List D):vt (.lst b)=.lst b:=rfl
@[simp] theorem view0_lst (S:Sto) (b:List D):view0 S (.lst b)=.lst b:=rfl
@[simp] theorem r6 (S:Sto) (b:List D):view S (.lst b)=.lst b:=rfl
@[simp] theorem vt_ro (b:List D):vt (.ro b)=.ro b:=rfl
@[simp] theorem view0_ro (S:Sto) (b:List D):view0 S (.ro b)=.ro b:=rfl
@[simp] theorem view_ro (S:Sto) (b:List D):view S (.ro b)=.ro b:=rfl
@[simp] theorem vt_glo (b:Str):vt (.glo b)=.glo b:=rfl
@[simp] theorem view0_glo (S:Sto) (b:Str):view0 S (.glo b)=.glo b:=rfl
@[simp] theorem view_glo (S:Sto) (b:Str):view S (.glo b)=.glo b:=rfl
@[simp] theorem vt_adr (b:Addr):vt (.adr b)=.adr b:=rfl
@[simp] theorem view0_adr (S:Sto) (b:Addr):view0 S (.adr b)=.adr b:=rfl
@[simp] theorem view_adr (S:Sto) (b:Addr):view S (.adr b)=.adr b:=rfl
@[simp] theorem vt_exn (a b:Addr) (ns:List Str) (xs:List D):vt (.exn a b ns xs)=.exn a b ns xs:=rfl
@[simp] theorem view0_exn (S:Sto) (a b:Addr) (ns:List Str) (xs:List D):view0 S (.exn a b ns xs)=.exn a b ns xs:=rfl
@[simp] theorem view_exn (S:Sto) (a b:Addr) (ns:List Str) (xs:List D):view S (.exn a b ns xs)=.exn a b ns xs:=rfl
@[simp] theorem vt_tpn (b:List D):vt (.tpn b)=.tup b:=rfl
@[simp] theorem vt_loc (l:Nat):vt (.loc l)=.loc l:=rfl
@[simp] theorem view0_tpn (S:Sto) (b:List D):view0 S (.tpn b)=.tpn b:=rfl
@[simp] theorem view_tpn (S:Sto) (b:List D):view S (.tpn b)=.tup b:=rfl
@[simp] theorem view0_loc (S:Sto) (l:Nat):view0 S (.loc l)=match S[l]? with
  | some (.lst xs)=>.lst xs
  | _=>.loc l:=rfl
@[simp] theorem view_loc (S:Sto) (l:Nat):view S (.loc l)=vt (match S[l]? with
  | some (.lst xs)=>.lst xs
  | _=>.loc l):=rfl
@[simp] theorem eBin_at (f:Sto→D→D→Option D) (ma mb:ME) (env:En) (S:Sto):aK f ma mb env S=(ma env S).bind fun a S=>(mb env S).bind fun b S=>ofO S (f S a b):=rfl
@[simp] theorem tOf_at (m:ME) (env:En) (S:Sto):tOf m env S=(m env S).bind fun d S=>match d with
  | .bool b=>.ok b S
  | _=>.stuck:=rfl
@[simp] theorem pNo_at (x0:En) (S:Sto):pNo  x0 S=.ok none S:=rfl
@[simp] theorem pSome_at (m:ME) (env:En) (S:Sto):lU m env S=(m env S).bind fun d S=>match d with
  | .int i=>.ok (some i) S
  | _=>.stuck:=rfl
@[simp] theorem eCut_at (m:ME) (ml mh:MP) (env:En) (S:Sto):rK m ml mh env S=(m env S).bind fun d S=>(ml env S).bind fun lo S=>(mh env S).bind fun hi S=>ofO S (qC (view0 S d) lo hi):=rfl
@[simp] theorem eC_at (d:D) (x0:En) (S:Sto):eC d x0 S=.ok d S:=rfl
@[simp] theorem eV_at (i:Nat) (env:En) (S:Sto):eV i env S=match env[i]? with
  | some (some d)=>.ok d S
  | _=>.stuck:=rfl
@[simp] theorem tTru_at (m:ME) (env:En) (S:Sto):cB m env S=(m env S).bind fun d S=>ofO S (gG S d):=rfl
@[simp] theorem tAndM_at (ma mb:MT) (env:En) (S:Sto):mX ma mb env S=(ma env S).bind fun c S=>if c=true then mb env S else .ok false S:=rfl
@[simp] theorem tOrM_at (ma mb:MT) (env:En) (S:Sto):c9 ma mb env S=(ma env S).bind fun c S=>if c=true then .ok true S else mb env S:=rfl
@[simp] theorem tNotM_at (ma:MT) (env:En) (S:Sto):bW ma env S=(ma env S).bind fun c S=>.ok (!c) S:=rfl
@[simp] theorem eAnd_at (ma mb:ME) (env:En) (S:Sto):jj ma mb env S=(ma env S).bind fun d S=>(ofO S (gG S d)).bind fun c S=>if c=true then mb env S else .ok d S:=rfl
@[simp] theorem eOr_at (ma mb:ME) (env:En) (S:Sto):eOr ma mb env S=(ma env S).bind fun d S=>(ofO S (gG S d)).bind fun c S=>if c=true then .ok d S else mb env S:=rfl
@[simp] theorem eNot_at (ma:ME) (env:En) (S:Sto):eNot ma env S=(ma env S).bind fun d S=>(ofO S (gG S d)).bind fun c S=>.ok (.bool (!c)) S:=rfl
@[simp] theorem eIf_at (tc:MT) (ma mb:ME) (env:En) (S:Sto):eIf tc ma mb env S=(tc env S).bind fun c S=>if c=true then ma env S else mb env S:=rfl
@[simp] theorem eNeg_at (ma:ME) (env:En) (S:Sto):eNeg ma env S=(ma env S).bind fun d S=>match d with
  | .int i=>.ok (.int (-i)) S
  | _=>.stuck:=rfl
@[simp] theorem eChain_at (f g:Sto→D→D→Option D) (ma mb mc:ME) (env:En) (S:Sto):jO f g ma mb mc env S=(ma env S).bind fun a S=>(mb env S).bind fun b S=>match f S a b with
  | some (.bool true)=>(mc env S).bind fun c S=>ofO S (g S b c)
  | some (.bool false)=>.ok (.bool false) S
  | _=>.stuck:=rfl
@[simp] theorem aNil_at (x0:En) (S:Sto):aJ  x0 S=.ok [] S:=rfl
@[simp] theorem aCons_at (m:ME) (r:MA) (env:En) (S:Sto):aC m r env S=(m env S).bind fun d S=>(r env S).bind fun ds S=>.ok (d::ds) S:=rfl
@[simp] theorem eTup_at (r:MA) (env:En) (S:Sto):cZ r env S=(r env S).bind fun ds S=>if ds.length≤1000000 then .ok (.tup ds) S else .stuck:=rfl
@[simp] theorem eLst_at (r:MA) (env:En) (S:Sto):dF r env S=(r env S).bind fun ds S=>if ds.length≤1000000 then .ok (.lst ds) S else .stuck:=rfl
@[simp] theorem eLstM_at (r:MA) (env:En) (S:Sto):iR r env S=(r env S).bind fun ds S=>if ds.length≤1000000 then .ok (.loc S.length) (S++[.lst ds]) else .stuck:=rfl
@[simp] theorem eDct_at (t:Bool) (x0:En) (S:Sto):qF t x0 S=.ok (.loc S.length) (S++[.dct t []]):=rfl
@[simp] theorem sNil_at (env:En) (S:Sto):bo  env S=.next env S:=rfl
@[simp] theorem sSeq_at (a b:MS) (env:En) (S:Sto):aT a b env S=(a env S).andThen b:=rfl
@[simp] theorem sExpr_at (m:ME) (env:En) (S:Sto):dW m env S=(m env S).rs env fun _ S=>.next env S:=rfl
@[simp] theorem sRet_at (m:ME) (env:En) (S:Sto):bH m env S=(m env S).rs env fun d S=>.ret d S:=rfl
@[simp] theorem sRetN_at (x0:En) (S:Sto):sRetN  x0 S=.ret .none S:=rfl
@[simp] theorem sBreak_at (env:En) (S:Sto):xh  env S=.brk env S:=rfl
@[simp] theorem sCont_at (env:En) (S:Sto):sCont  env S=.cont env S:=rfl
@[simp] theorem sStuck_at (x0:En) (x1:Sto):jP  x0 x1=.stuck:=rfl
@[simp] theorem eStuck_at (x0:En) (x1:Sto):xi  x0 x1=.stuck:=rfl
@[simp] theorem sIf_at (tc:MT) (a b:MS) (env:En) (S:Sto):sIf tc a b env S=(tc env S).rs env fun c S=>if c=true then a env S else b env S:=rfl
@[simp] theorem gV_at (i:Nat) (d:D) (env:En) (S:Sto):gV i d env S=some (env.set i (some d),S):=rfl
@[simp] theorem gsNil_at (ds:List D) (env:En) (S:Sto):gL  ds env S=match ds with
  | []=>some (env,S)
  | _=>none:=rfl
@[simp] theorem gsCons_at (g:MG) (gs:MGs) (ds:List D) (env:En) (S:Sto):bI g gs ds env S=match ds with
  | d::ds=>(g d env S).bind fun p=>gs ds p.1 p.2
  | []=>none:=rfl
@[simp] theorem gTupD_at (n:Nat) (gs:MGs) (d:D) (env:En) (S:Sto):fO n gs d env S=match vt d with
  | .tup ds=>if ds.length=n then gs ds env S else none
  | _=>none:=rfl
@[simp] theorem sAsg_at (m:ME) (g:MG) (env:En) (S:Sto):gz m g env S=(m env S).rs env fun d S=>ofG (g d env S):=rfl
@[simp] theorem sPar_at (i j:Nat) (r:MA) (env:En) (S:Sto):rQ i j r env S=(r env S).rs env fun ds S=>match ds with
  | [a,b]=>.next ((env.set i (some a)).set j (some b)) S
  | _=>.stuck:=rfl
@[simp] theorem sSet_at (i:Nat) (m:ME) (env:En) (S:Sto):bF i m env S=(m env S).rs env fun d S=>.next (env.set i (some d)) S:=rfl
@[simp] theorem sAug_at (i:Nat) (f:Sto→D→D→Option D) (m:ME) (env:En) (S:Sto):sAug i f m env S=match env[i]? with
  | some (some a)=>(m env S).rs env fun b S=>match f S a b with
    | some d=>.next (env.set i (some d)) S
    | none=>.stuck
  | _=>.stuck:=rfl
@[simp] theorem iAny_at (m:ME) (env:En) (S:Sto):cM m env S=(m env S).bind fun d S=>ofO S (bO S d):=rfl
@[simp] theorem iRng1D_at (r:MA) (env:En) (S:Sto):jR r env S=(r env S).bind fun ds S=>match ds with
  | [.int j]=>if bU j then .ok (.items (kY 0 j.toNat)) S else .stuck
  | _=>.stuck:=rfl
@[simp] theorem iRng2D_at (r:MA) (env:En) (S:Sto):kZ r env S=(r env S).bind fun ds S=>match ds with
  | [.int i,.int j]=>if bU i&&bU j then .ok (.items (kY i (j - i).toNat)) S else .stuck
  | _=>.stuck:=rfl
@[simp] theorem iEnumD_at (r:MA) (env:En) (S:Sto):me r env S=(r env S).bind fun ds S=>match ds.map vt with
  | [.tup xs]=>.ok (.items (dz 0 xs)) S
  | [.lst xs]=>.ok (.items (dz 0 xs)) S
  | [.loc l]=>match S[l]? with
    | some (.lst _)=>.ok (.liveE l) S
    | _=>.stuck
  | _=>.stuck:=rfl
@[simp] theorem iZipD_at (r:MA) (env:En) (S:Sto):vo r env S=(r env S).bind fun ds S=>match ds.map vt with
  | [.tup xs,.tup ys]=>.ok (.items (fG xs ys)) S
  | [.lst xs,.lst ys]=>.ok (.items (fG xs ys)) S
  | _=>.stuck:=rfl
@[simp] theorem sFor_at (mi:MI) (g:MG) (b:MS) (env:En) (S:Sto):fR mi g b env S=(mi env S).rs env fun it S=>match it with
  | .items ds=>iT g b ds env S
  | .live l=>iE g b l (dB S l+1) 0 env S
  | .liveE l=>lW g b l (dB S l+1) 0 env S:=rfl
@[simp] theorem compR_at (mi:MI) (g:MG) (tc:MT) (m:ME) (vs:List Nat) (env:En) (S:Sto):gN mi g tc m vs env S=(mi env S).bind fun it S=>match it with
  | .items ds=>c8 g tc m (aU env vs) ds [] S
  | .live l=>fP g tc m (aU env vs) l (dB S l+1) 0 [] S
  | .liveE l=>iU g tc m (aU env vs) l (dB S l+1) 0 [] S:=rfl
@[simp] theorem r8 (mi:MI) (g:MG) (tc:MT) (m:ME) (vs:List Nat) (env:En) (S:Sto):b6 mi g tc m vs env S=(gN mi g tc m vs env S).bind fun ds S=>.ok (.lst ds) S:=rfl
@[simp] theorem eCompM_at (mi:MI) (g:MG) (tc:MT) (m:ME) (vs:List Nat) (env:En) (S:Sto):mn mi g tc m vs env S=(gN mi g tc m vs env S).bind fun ds S=>.ok (.loc S.length) (S++[.lst ds]):=rfl
@[simp] theorem yE (x0:En) (S:Sto):cD  x0 S=.ok true S:=rfl
@[simp] theorem chk_at (n:Nat) (m:MF) (ds:List D) (S:Sto):chk n m ds S=if ds.length=n then m ds S else .stuck:=rfl
@[simp] theorem yF (n:Nat) (m:MS) (ds:List D) (S:Sto):bG n m ds S=match m (ds.map some++List.replicate n none) S with
  | .next _ S=>.ok .none S
  | .ret d S=>.ok d S
  | .exc e _ S=>.exc e S
  | _=>.stuck:=rfl
@[simp] theorem eCall_at (n:Nat) (m:MF) (r:MA) (env:En) (S:Sto):aS n m r env S=(r env S).bind fun ds S=>chk n m ds S:=rfl
@[simp] theorem eMeth_at (cn nm:Str) (n:Nat) (m:MF) (ma:ME) (r:MA) (env:En) (S:Sto):dG cn nm n m ma r env S=(ma env S).bind fun d S=>match d with
  | .loc l=>match S[l]? with
    | some (.ins C fs)=>if C=cn∧(fs.map (·.1)).contains nm=false then (r env S).bind fun ds S=>chk n m (.loc l::ds) S else .stuck
    | _=>.stuck
  | _=>.stuck:=rfl
@[simp] theorem eMake_at (cn:Str) (n:Nat) (mi:MF) (r:MA) (env:En) (S:Sto):mt cn n mi r env S=(r env S).bind fun ds S=>(chk n mi (.loc S.length::ds) (S++[.ins cn []])).bind fun d S'=>match d with
  | .none=>.ok (.loc S.length) S'
  | _=>.stuck:=rfl
@[simp] theorem eFld_at (cn f:Str) (ma:ME) (env:En) (S:Sto):du cn f ma env S=(ma env S).bind fun d S=>match d with
  | .loc l=>match S[l]? with
    | some (.ins C fs)=>if C=cn then ofO S (fs.lookup f) else .stuck
    | _=>.stuck
  | _=>.stuck:=rfl
@[simp] theorem sFldM_at (cn f:Str) (ma mv:ME) (env:En) (S:Sto):jn cn f ma mv env S=(mv env S).rs env fun d S=>(ma env S).rs env fun o S=>match o with
  | .loc l=>match S[l]? with
    | some (.ins C fs)=>if C=cn∧fs.length<1000 then .next env (S.set l (.ins C (iK f d fs))) else .stuck
    | _=>.stuck
  | _=>.stuck:=rfl
@[simp] theorem eB_at (f:BF) (r:MA) (env:En) (S:Sto):eB f r env S=(r env S).bind fun ds S=>ofO S (f S ds):=rfl
@[simp] theorem eM_at (ok:Sto→D→Bool) (f:BM) (ma:ME) (r:MA) (env:En) (S:Sto):eM ok f ma r env S=(ma env S).bind fun d S=>if ok S d then (r env S).bind fun ds S=>match f S d ds with
  | some p=>.ok p.1 p.2
  | none=>.stuck else .stuck:=rfl
@[simp] theorem gSubM_at (mo mi:ME) (v:D) (env:En) (S:Sto):gQ mo mi v env S=match mo env S with
  | .ok o S=>match mi env S with
    | .ok i S=>(bY S o i v).map fun S=>(env,S)
    | _=>none
  | _=>none:=rfl
@[simp] theorem eRev_at (m:ME) (env:En) (S:Sto):eRev m env S=(m env S).bind fun d S=>match view S d with
  | .lst xs=>.ok (.lst xs.reverse) S
  | _=>.stuck:=rfl
@[simp] theorem eDictP_at (r:MA) (env:En) (S:Sto):qN r env S=(r env S).bind fun ds S=>match ds with
  | [.tpn xs]=>match eU xs with
    | some ps=>if xs.length≤1000000 then .ok (.loc S.length) (S++[.dct false (eF [] ps)]) else .stuck
    | none=>.stuck
  | _=>.stuck:=rfl
@[simp] theorem eDComp_at (mi:MI) (g:MG) (tc:MT) (mk mv:ME) (vs:List Nat) (env:En) (S:Sto):m7 mi g tc mk mv vs env S=(mi env S).bind fun it S=>match it with
  | .items ds=>(fK g tc mk mv (aU env vs) ds [] S).bind kD
  | .live _=>.stuck
  | .liveE _=>.stuck:=rfl
@[simp] theorem sRaise_at (C:Str) (env:En) (S:Sto):m8 C env S=.exc ⟨C,[]⟩ env S:=rfl
@[simp] theorem eKind_at (hd:Hdr) (m:ME) (env:En) (S:Sto):rp hd m env S=fh hd (m env S):=rfl
@[simp] theorem kD_at (kvs:List (D × D)) (S:Sto):kD kvs S=.ok (.loc S.length) (S++[.dct false kvs]):=rfl
@[simp] theorem lv_at (f:D→D→Option D) (S:Sto) (a b:D):lv f S a b=f (view S a) (view S b):=rfl
@[simp] theorem lv0_at (f:D→D→Option D) (S:Sto) (a b:D):lv0 f S a b=f (view0 S a) (view0 S b):=rfl
@[simp] theorem oI_at (g:Int→Int→Int) (i j:Int):oI g (.int i) (.int j)=some (.int (g i j)):=rfl
@[simp] theorem oIC_at (C:Int→Int→Bool) (g:Int→Int→Int) (i j:Int):oIC C g (.int i) (.int j)=if C i j then some (.int (g i j)) else none:=rfl
@[simp] theorem oIB_at (g:Int→Int→Bool) (i j:Int):oIB g (.int i) (.int j)=some (.bool (g i j)):=rfl
@[simp] theorem dAdd_int (i j:Int):bL (.int i) (.int j)=some (.int (i+j)):=rfl
@[simp] theorem dAdd_str (x y:Str):bL (.str x) (.str y)=if x.length+y.length≤1000000 then some (.str (x++y)) else none:=rfl
@[simp] theorem dAdd_tup (xs ys:List D):bL (.tup xs) (.tup ys)=if xs.length+ys.length≤1000000 then some (.tup (xs++ys)) else none:=rfl
@[simp] theorem dAdd_lst (xs ys:List D):bL (.lst xs) (.lst ys)=if xs.length+ys.length≤1000000 then some (.lst (xs++ys)) else none:=rfl
@[simp] theorem dEq_at (a b:D):dEq a b=if dok 60 a&&dok 60 b then some (.bool (peq a b)) else none:=rfl
@[simp] theorem dNe_at (a b:D):dNe a b=if dok 60 a&&dok 60 b then some (.bool (!peq a b)) else none:=rfl
@[simp] theorem fIn_at (S:Sto) (a b:D):fIn S a b=(dIn S a b).map .bool:=rfl
@[simp] theorem fNotIn_at (S:Sto) (a b:D):cj S a b=(dIn S a b).map fun c=>.bool (!c):=rfl
@[simp] theorem dIsN_at (a:D):dIsN a .none=some (.bool (isN a)):=rfl
@[simp] theorem dIsntN_at (a:D):dIsntN a .none=some (.bool (!isN a)):=rfl
end DL
namespace DL
open PySem PySem.Spec PyProof.Rows L2 LamX
theorem v6 {fs:List (Str × D)} {dd:Option Addr} (h:fs.map (·.1)=[]) (k:DdK fs dd):fs=[]∧dd=none:=by
  have e:fs=[]:=List.map_eq_nil_iff.mp h
  rcases k with k|⟨k,_⟩
  · exact k
  · exact absurd e k
theorem zy {fs:List (Str × D)} {dd:Option Addr} (h:fs≠[]) (k:DdK fs dd):∃d,dd=some d:=by
  rcases k with ⟨k,_⟩|⟨_,k⟩
  · exact absurd k h
  · exact k
theorem ex_two {fs:List (Str × D)} {dd:Option Addr} {a b:Str} (h:fs.map (·.1)=[a,b]) (k:DdK fs dd):∃x y d,fs=[(a,x),(b,y)]∧dd=some d:=by
  match fs,h with
  | [(a',x),(b',y)],h=>
    obtain ⟨rfl,rfl⟩:a'=a∧b'=b:=by simpa using h
    obtain ⟨d,rfl⟩:=zy (by simp) k
    exact ⟨x,y,d,rfl,rfl⟩
theorem ac {a b:MS} {env env':En} {S S':Sto} {r:RS} (h:a env S=.next env' S') (h2:b env' S'=r):aT a b env S=r:=by
  unfold aT; rw[h]; exact h2
theorem v7 {ea:Addr} {dd:Option Addr} {fs:List (Str × D)} {kt:D→Option Bool} {c:D} {b:Bool} {env:En} {S:Sto} (h:env[1]?=some (some (exD ea fs dd))) (hk:kt c=some b):eB (dJ ea dd kt) (aC (eV 1) (aC (eC c) aJ)) env S=.ok (.bool b) S:=by
  cases dd<;>simp[eB,aC,eV,h,dJ,hk,exD]
theorem yG {ea:Addr} {dd:Option Addr} {fs0:List (Str × D)} {kt:D→Option Bool} {c:D} {b:Bool} {env:En} {S:Sto} {r:MA} {ds:List D} (h:env[1]?=some (some (exD ea fs0 dd))) (hk:kt c=some b) (hr:r env S=.ok ds S):aC (eB (dJ ea dd kt) (aC (eV 1) (aC (eC c) aJ))) r env S=.ok (.bool b::ds) S:=by
  show Res.bind (eB (dJ ea dd kt) (aC (eV 1) (aC (eC c) aJ)) env S) _=_
  rw[v7 h hk]
  show Res.bind (r env S) _=_
  rw[hr]
  rfl
theorem ae {C y:Str} {ea:Addr} {dd:Option Addr} {fs0:List (Str × D)} {env:En} {S:Sto} {r:MA} {ds:List D} (h:env[1]?=some (some (exD ea fs0 dd))) (hk:kinds.contains y=true) (hr:r env S=.ok ds S):aC (eB (dJ ea dd (ktK C)) (aC (eV 1) (aC (eC (.glo y)) aJ))) r env S=.ok (.bool (decide (y=C))::ds) S:=
  yG h (by unfold ktK; simp only[hk,if_true]) hr
theorem qR {i:Nat} {r:MA} {env:En} {S:Sto} {ds:List D} (h:r env S=.ok ds S) (hl:ds.length≤1000000):bF i (dF r) env S=.next (env.set i (some (.lst ds))) S:=by
  simp[bF,dF,h,hl,Res.rs]
theorem b5 {i j:Nat} {r:MA} {env:En} {S:Sto} {ds xs:List D} (hj:env[j]?=some (some (.lst xs))) (h:r env S=.ok ds S) (hl:ds.length≤1000000) (hl2:xs.length+ds.length≤1000000):bF i (aK (lv0 bL) (eV j) (dF r)) env S=.next (env.set i (some (.lst (xs++ds)))) S:=by
  simp[bF,aK,eV,dF,h,hl,hj,hl2,Res.rs]
theorem yH {i:Nat} {d:D} {env:En} {S:Sto}:bF i (eC d) env S=.next (env.set i (some d)) S:=rfl
theorem iu {i j:Nat} {x y:Str} {env:En} {S:Sto} (hj:env[j]?=some (some (.str x))) (hl:decide (x.length+y.length≤1000000)=true):bF i (aK (lv0 bL) (eV j) (eC (.str y))) env S=.next (env.set i (some (.str (x++y)))) S:=by
  have hl:=of_decide_eq_true hl
  simp[bF,aK,eV,hj,hl,Res.rs]
theorem nB {ea:Addr} {dd:Option Addr} {fs0:List (Str × D)} {kt:D→Option Bool} {c:D} {env:En} {S:Sto} (h:env[1]?=some (some (exD ea fs0 dd))) (hk:kt c=some true):bW (cB (eB (dJ ea dd kt) (aC (eV 1) (aC (eC c) aJ)))) env S=.ok false S:=by
  unfold bW cB
  rw[v7 h hk]
  simp[gG]
theorem ui {ta tb:MT} {env:En} {S:Sto} (h1:ta env S=.ok false S) (h2:tb env S=.ok false S):c9 ta tb env S=.ok false S:=by
  simp[c9,h1,h2]
theorem set_ok {i:Nat} {m:ME} {d:D} {env:En} {S:Sto} (h:m env S=.ok d S):bF i m env S=.next (env.set i (some d)) S:=by
  unfold bF; rw[h]; rfl
theorem yI {ea d:Addr} {ok:Bool} {f:Str} {ns:List Str} {ds:List D} {x:D} {env:En} {S:Sto} (h:env[1]?=some (some (.exn ea d ns ds))) (l:(ns.zip ds).lookup f=some x) (o:ok=true):eXf ea (some d) ok f (eV 1) env S=.ok x S:=by
  simp[eXf,eV,h,l,o]
theorem zz {t:MT} {m:MS} {ea d:Addr} {o1 o2:Bool} {f1 f2:Str} {ns:List Str} {ds:List D} {w x y:D} {env:En} {S:Sto} (ht:t env S=.ok true S) (h4:env[4]?=some (some w)) (h:env[1]?=some (some (.exn ea d ns ds))) (l1:(ns.zip ds).lookup f1=some x) (l2:(ns.zip ds).lookup f2=some y) (p1:o1=true) (p2:o2=true) :
    aT (sIf t (bH (cZ (aC (eV 4) (aC (eXf ea (some d) o1 f1 (eV 1)) (aC (eXf ea (some d) o2 f2 (eV 1)) aJ))))) bo) m env S=.ret (.tup [w,x,y]) S:=by
  simp[aT,sIf,ht,Res.rs,bH,cZ,aC,eV,h4,yI h l1 p1,yI h l2 p2,aJ]
theorem yJ {t:MT} {a:MS} {env:En} {S:Sto} (h:t env S=.ok false S):sIf t a bo env S=.next env S:=by
  simp[sIf,h,Res.rs]
end DL
namespace DL
open PySem PySem.Spec PyProof.Rows L2 LamX
/-- one parameter x; else captured names and globals -/
structure LamS1 (sc scope:Scope) (x:Str):Prop where
  kind:scope.kind=.function
  co:scope.isCoroutine=false
  gen:scope.isGenerator=false
  par:scope.names.lookup x=some .local
  own:∀y∈scope.names,y.2=.local→y.1=x
  nocell:∀y∈scope.names,y.2≠.cell
  free:∀y∈scope.names,y.2=.free→sc.names.lookup y.1=some .cell∨sc.names.lookup y.1=some .free
def yK (sc scope:Scope) (x:Str):Bool:=
  decide (scope.kind=.function)&&!scope.isCoroutine&&!scope.isGenerator&&decide (scope.names.lookup x=some .local)&&scope.names.all fun y=>(!decide (y.2=.local)||decide (y.1=x))&&!decide (y.2=.cell)&&(!decide (y.2=.free)||decide (sc.names.lookup y.1=some .cell)||decide (sc.names.lookup y.1=some .free))
theorem fi {sc scope:Scope} {x:Str} (h:yK sc scope x=true):LamS1 sc scope x:=by
  unfold yK at h
  simp only[Bool.and_eq_true,Bool.or_eq_true,Bool.not_eq_true',decide_eq_true_eq,decide_eq_false_iff_not,List.all_eq_true] at h
  obtain ⟨⟨⟨⟨h1,h2⟩,h3⟩,h5⟩,h4⟩:=h
  refine ⟨h1,h2,h3,h5,fun y hy e=>?_,fun y hy=>(h4 y hy).1.2,fun y hy e=>?_⟩
  · rcases (h4 y hy).1.1 with z|z
    · exact absurd e z
    · exact z
  · rcases (h4 y hy).2 with (z|z)|z
    · exact absurd e z
    · exact .inl z
    · exact .inr z
theorem LamS1.has {X:Cx} {scope:Scope} {x:Str} (L:LamS1 X.env.scope scope x) (ok:X.Ok):∀y∈scope.names,y.2=.free→∃c,X.env.cells.lookup y.1=some c:=fun y hy e=>by
  rcases L.free y hy e with k|k
  · exact ok.has _ (.inl k)
  · exact ok.has _ (.inr k)
section
variable {X:Cx} {pins:List (Addr × Obj)} {σ:L2.St} {H HZ:Hp} {s s1:Shared}
theorem nD {A:Around} {outer:List Env} {E:XK} {scope:Scope} {f c':Addr} {h₁:Heap} {tk:Nat} {x:Str} {i:Nat} {v:V} {u:Value} (I:Inv X pins σ H s) (L:LamS1 X.env.scope scope x) (nd:X.N.Nodup) (hi:X.N[i]?=some x) (rv:L2.RelV v u) (e0:Env0 X.prog X.w X.K X.mg X.base A outer s1 HZ) (hd:A.handled=none)
    (un:Un (frs X.stack) [] H HZ s.heap s1.heap) (hns:h₁.Ns s1.heap.objs.size fun y=>([(x,u)]:List (Str × Value)).reverse.lookup y) (kp:∀b o,s1.heap.get? b=some o→h₁.get? b=some o) :
    Inv (lamCx X A outer s1 HZ E scope f c') [] (σ.set i (some v)) HZ { s1 with heap:=h₁,toks:=tk }:=by
  have hfree:=L.has I.ok
  have cm:∀ {y c},(cloFrom X.env.cells scope.names []).lookup y=some c→X.env.cells.lookup y=some c:=fun {y c} e=>by
    rcases cloFrom_mem (PySem.mem_of_lookup e) with hm|⟨h1,h2⟩
    · cases hm
    · obtain ⟨c1,hc⟩:=hfree _ h1 rfl
      have hc:X.env.cells.lookup y=some c1:=hc
      have e2:c=c1:=by
        rw[h2,hc]<;>rfl
      rw[e2]
      exact hc
  have look:∀ {y},scope.names.lookup y=some .free→∃c,(cloFrom X.env.cells scope.names []).lookup y=some c:=fun {y} hl=>by
    have hy:(y,NameKind.free)∈scope.names:=PySem.mem_of_lookup hl
    exact mem_lookup (cloFrom_has (cells:=X.env.cells) (acc:=[]) hy)
  have cellK:∀ {c:Addr} {v:Option Value},H c=none→s.heap.IsCell c v→h₁.IsCell c v:=fun {c v} n ⟨o,ho,hd⟩=>by
    obtain ⟨sl,q⟩:=un.any ho n (by simp)
    exact ⟨_,kp _ _ q,hd⟩
  have noA:∀b:Addr,b∉(lamCx X A outer s1 HZ E scope f c').ex:=fun b z=>absurd (show b∈([]:List Addr) from z) (by simp)
  have hil:i<σ.length:=by rw[I.len]; exact (List.getElem?_eq_some_iff.mp hi).1
  refine ⟨⟨e0.mod,L.kind,rfl,rfl,Nat.le_refl _,fun y z c e1 e2=>I.ok.inj y z c (cm e1) (cm e2),fun y hy=>?_,fun y c z _=>?_,fun _=>hd,Around.frames_deeper e0.frames,.inr ⟨rfl,rfl⟩,fun b z=>absurd z (noA b),e0.bs,e0.bsz,fun b _ _=>noA b,
      fun b z=>absurd z (noA b),e0.funs,e0.frf⟩,
    rfl,e0.bare,Un.kept kp,⟨_,hns,fun j y v' e1 e2 e3=>?_⟩,fun y c e=>?_,e0.hok.fresh (Nat.le_refl _),fun y c e=>?_,fun q hq=>absurd (show q∈([]:List (Addr × Obj))++[] from hq) (by simp),e0.hok.kept kp,by rw[List.length_set]; exact I.len⟩
  · have hy:scope.names.lookup y=some .cell∨scope.names.lookup y=some .free:=hy
    rcases hy with hy|hy
    · exact absurd rfl (L.nocell _ (PySem.mem_of_lookup hy))
    · exact look hy
  · have z:false=true:=z
    cases z
  · have e3:Vis scope y:=e3
    by_cases hj:j=i
    · subst hj
      have hyx:y=x:=Option.some.inj (e1.symm.trans hi)
      subst hyx
      rw[List.getElem?_set_self hil] at e2
      cases e2
      refine ⟨u,rv,.inl ⟨L.par,?_⟩⟩
      simp[List.lookup]
    · rw[List.getElem?_set_ne (Ne.symm hj)] at e2
      have hyx:y≠x:=fun z=>hj (nodup_ix nd (by rw[z] at e1; exact e1) hi)
      rcases e3 with k|k|k
      · exact absurd (L.own _ (PySem.mem_of_lookup k) rfl) hyx
      · exact absurd rfl (L.nocell _ (PySem.mem_of_lookup k))
      · obtain ⟨m,hn,hl⟩:=I.loc
        have hvis:Vis X.env.scope y:=(L.free _ (PySem.mem_of_lookup k) rfl).elim (fun k=>.inr (.inl k)) (fun k=>.inr (.inr k))
        obtain ⟨w',r,q⟩:=hl j y v' e1 e2 hvis
        obtain ⟨c2,h2⟩:=look k
        refine ⟨w',r,.inr ⟨.inr k,c2,h2,?_⟩⟩
        have c1:=cm h2
        rcases q with ⟨k',_⟩|⟨_,c3,e',z⟩
        · have k':X.env.scope.names.lookup y=some .local:=k'
          rcases L.free _ (PySem.mem_of_lookup k) rfl with k2|k2<;>rw[show X.env.scope.names.lookup y=_ from k2] at k'<;>cases k'
        · rw[c1] at e'
          cases e'
          exact cellK (I.freeC y _ c1) z
  · obtain ⟨w',z⟩:=I.cell y c (cm e)
    exact ⟨w',cellK (I.freeC y c (cm e)) z⟩
  · obtain ⟨v,o,ho,hd⟩:=I.cell y c (cm e)
    exact un.free c o ho (I.freeC y c (cm e)) (by simp)
/-- f(u),f such a lambda,by a built-in called in this frame -/
theorem wg {A:Around} {f c':Addr} {pm ctv:Value} {params:Arguments} {body:Expr} {scope:Scope} {k i:Nat} {x:Str} {v:V} {u:Value} {tb:TE} {Q:VK} (I:Inv X pins σ H s) (hA:Env0 X.prog X.w X.K X.mg X.base A X.stack s H) (L:LamS1 X.env.scope scope x) (nd:X.N.Nodup) (hi:X.N[i]?=some x)
    (hf:s.heap.get? f=some (PySem.W.kla_obj "<lambda>" (X.env.qual++"<lambda>") params body scope (cloFrom X.env.cells scope.names []) pm c' ctv)) (hco:H c'=some (CodeO c' (X.env.qual++"<lambda>")))
    (hbind:bindArgs (PySem.W.kla_fn "<lambda>" (X.env.qual++"<lambda>") params body scope (cloFrom X.env.cells scope.names []) pm (.ref c') ctv) ⟨[u],[]⟩=pure [(x,u)])
    (hr:Room (k+1) A) (rv:L2.RelV v u)
    (hbody:∀(A:Around) (outer:List Env) (s:Shared) (H:Hp),Room k (A.deeper (lamEnv X scope s.heap.objs.size f c'))→PE (lamCx X A outer s H (fun _ _ _=>False) scope f c') body tb) (h:tb (σ.set i (some v)) H Q) :
    wpAny (model X.prog X.w) A (PySem.call (.ref f) [u]) (EP X pins σ Q) (fun _ _=>False) s:=by
  obtain ⟨⟨oc,vs,t,hoc,hdc,hvc⟩,_,_⟩:=I.hok c' _ hco
  have rc:codeAny (model X.prog X.w) A (.call (.ref f) ⟨[u],[]⟩) (CR (L2.CX X.prog X.w) X.stack X.prog X.w H s Q (fun _ _ _=>False)) s:=by
    refine PySem.W.kla_callFunE hr.depth hf rfl L.co L.gen rfl ⟨c',oc,vs,t,rfl,hoc,hdc,hvc⟩ ?_
    rw[hbind]
    refine wpAny_pure (wpAny_newFunctionEnv (fun y hy=>L.nocell y hy) (fun y hy=>by rw[List.mem_singleton.mp hy]; exact L.par) (fun h₁ hns hsb=>⟨I.nolimit.fresh _ hsb,?_⟩) L.kind)
    show codeAny _ _ (.expr body (lamEnv X scope s.heap.objs.size f c')) _ _
    have kp:∀b o,s.heap.get? b=some o→h₁.get? b=some o:=fun b o e=>hsb.extBut b o (Nat.ne_of_lt (Heap.lt_size e)) (Heap.get?_push_of_some _ e)
    have J:Inv (lamCx X A X.stack s H (fun _ _ _=>False) scope f c') [] (σ.set i (some v)) H { s with heap:=h₁,toks:=s.toks+([(x,u)]:List (Str × Value)).length }:=
      nD I L nd hi rv hA hr.hd Un.refl hns kp
    refine PySem.W.kla_codeExpr (wpAny_mono ((hbody _ _ s H (hr.deeper _)).run [] _ _ H Q J h) (fun v s' hq=>?_) fun e s' hq=>hq)
    obtain ⟨w',H',J',rv,q⟩:=hq
    exact ⟨w',H',J'.os,J'.bare,J'.base,J'.hok,rv,q⟩
  refine wpAny_call (codeAny_mono rc fun r s' hq=>?_)
  cases r with
  | error e=>
    have hq:L2.CX X.prog X.w X.stack H s (fun _ _ _=>False) e s':=hq
    obtain ⟨_,_,_,_,_,_,_,_,_,_,_,_,_,_,_,_,z⟩:=hq
  | ok fl=>
    cases fl with
    | ret u=>exact I.after hq
    | next=>exact False.elim hq
    | brk=>exact False.elim hq
    | cont=>exact False.elim hq
end
end DL
namespace DL
open PySem PySem.Spec PyProof.Rows L2 LamX PySem.W
section
variable {prog:Program} {w:World} {A:Around} {E:Value→Shared→Prop} {s:Shared} {a kS:Addr} {vs:List Value} {keys:Array Value} {e e1:Nat} {P:PySem.Fin→Shared→Prop} {kz:List PyData}
/-- all but two objects kept -/
def uj (a kS:Addr) (h h':Heap):Prop:=∀b o,b≠a→b≠kS→h.get? b=some o→h'.get? b=some o
theorem pD {st:SortSt} {out:List Value} (nk:s.heap.get? kS=some (seqObj "list" keys e)) (na:s.heap.get? a=some (seqObj "list" #[] e1)) (hka:kS≠a)
    (hsz:keys.size≤sizeLine) (hz:out.length≤sizeLine) (hfl:failedOf st=none) (ho:(arrOf st).map (·.2)=out.toArray)
    (h:∀h' tk c,uj a kS s.heap h'→(∃o,h'.get? kS=some o)→h'.get? a=some (seqObj "list" out.toArray c)→P (.done (.ret .none)) { s with heap:=h',toks:=tk }) :
    wpAny (model prog w) A (ksk_tail a false e1 (.ref kS) st) P E s:=by
  have s1:=Heap.SameBut.update s.heap kS (Obj.mapSeq fun _=>(#[]:Array Value))
  have na1:(s.heap.update kS (Obj.mapSeq fun _=>(#[]:Array Value))).get? a=some (seqObj "list" #[] e1):=(s1.2 a hka.symm).trans na
  have s2:=Heap.SameBut.update (s.heap.update kS (Obj.mapSeq fun _=>(#[]:Array Value))) a (Obj.mapSeq fun _=>out.toArray)
  obtain ⟨c2,hc2⟩:∃c2,((s.heap.update kS (Obj.mapSeq fun _=>(#[]:Array Value))).update a (Obj.mapSeq fun _=>out.toArray)).get? a=some (seqObj "list" out.toArray c2):=
    ⟨_,get?_update_seq na1 fun _=>out.toArray⟩
  obtain ⟨c1,hc1⟩:∃c1,(s.heap.update kS (Obj.mapSeq fun _=>(#[]:Array Value))).get? kS=some (seqObj "list" #[] c1):=⟨_,get?_update_seq nk fun _=>#[]⟩
  have hz2:out.toArray.size≤sizeLine+1:=by
    rw[List.size_toArray]
    exact Nat.le_succ_of_le hz
  unfold ksk_tail
  try dsimp only
  rw[if_neg Bool.false_ne_true,ho]
  refine wpAny_bind (listUpdate_at nk rfl ?_ hsz (Nat.zero_le _))
  refine wpAny_bind (wpAny_letGo ?_)
  refine wpAny_bind (seqEpoch_at na1 rfl ?_)
  refine wpAny_bind (listUpdate_at na1 rfl ?_ (Nat.zero_le _) hz2)
  rw[hfl]
  simp only[bne_self_eq_false,Bool.false_eq_true,if_false]
  exact wpAny_pure (h _ _ c2 (fun b o h1 h2 q=>(s2.2 b h1).trans ((s1.2 b h2).trans q)) ⟨_,(s2.2 kS hka).trans hc1⟩ hc2)
theorem yL {κ:PyProof.Rows.KeyKind} (nk:s.heap.get? kS=some (seqObj "list" keys e)) (na:s.heap.get? a=some (seqObj "list" #[] e1)) (hka:kS≠a)
    (S:SortsAt prog w A s κ keys.toList) (hsz:keys.size=vs.length) (hZ:vs.length≤sizeLine)
    (h:∀h' tk c,uj a kS s.heap h'→(∃o,h'.get? kS=some o)→h'.get? a=some (seqObj "list" (sortVals κ false keys.toList vs).toArray c)→P (.done (.ret .none)) { s with heap:=h',toks:=tk }) :
    wpAny (model prog w) A (ksk_end a false vs.toArray e1 (.ref kS) keys) P E s:=by
  obtain ⟨kd,h1,h2⟩:=S.kind
  have hkl:keys.toList.length=vs.length:=by
    rw[Array.length_toList]
    exact hsz
  have hK:PyProof.Rows.KeysOf κ (keys.zip vs.toArray):=keysOf_zip S.keys
  have hol:(sortVals κ false keys.toList vs).length=vs.length:=sortVals_length false hkl
  have hss:(keys.zip vs.toArray).size=vs.length:=by rw[Array.size_zip,hsz,List.size_toArray,Nat.min_self]
  have fin:∀st':SortSt,(arrOf st').Perm (keys.zip vs.toArray)→SortedToK κ (arrOf st') (keys.zip vs.toArray).size→
      Stable κ (arrOf st') (keys.zip vs.toArray)→(arrOf st').map (·.2)=(sortVals κ false keys.toList vs).toArray:=by
    intro st' hp hs ht
    have e:=sort_out (rev:=false) (keys:=keys) (items:=vs.toArray) (xs:=arrOf st') (κ:=κ) hK hp hs ht
    have e':=congrArg List.toArray e
    rw[Array.toArray_toList] at e'
    exact e'
  unfold ksk_end
  try dsimp only
  rw[if_neg Bool.false_ne_true,if_neg Bool.false_ne_true]
  by_cases hl2:vs.toArray.size<2
  · rw[if_pos hl2,if_pos hl2]
    refine wpAny_bind (wpAny_pure ?_)
    rw[StateT.run_pure]
    refine wpAny_bind (wpAny_pure ?_)
    try dsimp only
    refine pD (st:=SortSt.mk' general' (keys.zip vs.toArray) #[] 7 none) nk na hka (by rw[hsz]; exact hZ) (by rw[hol]; exact hZ) rfl (fin _ (Array.Perm.refl _) ?_ (Stable.refl _)) h
    intro i j hij hj
    rw[hss] at hj
    rw[List.size_toArray] at hl2
    have:i=j:=by omega
    subst this
    exact KeyOrd.kle_refl _
  · rw[if_neg hl2,if_neg hl2]
    rw[List.size_toArray] at hl2
    refine wpAny_bind (h2 (by omega) _ ?_)
    refine wpAny_bind (wpAny_mono (H.wpS_sortRunsSt (κ:=κ) (kd:=kd) (a₀:=keys.zip vs.toArray)
      (st:=SortSt.mk' kd (keys.zip vs.toArray) #[] 7 none)
      (Q:=fun _ st'=>failedOf st'=none∧(arrOf st').map (·.2)=(sortVals κ false keys.toList vs).toArray)
      h1 hK ⟨Array.Perm.refl _,rfl,rfl⟩ rfl (Stable.refl _) (by rw[hss]; omega) fun st' a1 a2 a3 a4=>⟨a2,fin st' a1 a3 a4⟩) ?_ fun _ _ e=>e)
    rintro ⟨⟨⟩,st'⟩ s' ⟨rfl,hf,ho⟩
    try dsimp only at ho ⊢
    exact pD nk na hka (by rw[hsz]; exact hZ) (by rw[hol]; exact hZ) hf ho h
end
section
variable {X:Cx} {pins:List (Addr × Obj)} {σ:L2.St} {H:Hp} {s:Shared} {h':Heap}
/-- two untracked records of ours have turned -/
theorem r9 {t':Nat} {a kS:Addr} (I:Inv X pins σ H s) (k:uj a kS s.heap h') (fa:FpOk X pins H a) (fk:FpOk X pins H kS):Inv X pins σ H { s with heap:=h',toks:=t' }:=by
  have nit:∀b u,H b=some u→b≠a∧b≠kS:=fun b u e=>⟨fun z=>(by rw[z,fa.1] at e; cases e),fun z=>(by rw[z,fk.1] at e; cases e)⟩
  refine I.step (g':=s.gens) (d':=s.drawn) (ch:=[a,kS]) (fun b hb=>?_) (fun b o _ _ hc e _=>k b o (fun z=>hc (by simp[z])) (fun z=>hc (by simp[z])) e) (fun b o _ _ hc e _=>⟨o.slots,k b o (fun z=>hc (by simp[z])) (fun z=>hc (by simp[z])) e⟩) (fun _ _ _ _ n=>n)
    (fun b o hc e=>⟨o,k b o (fun z=>hc (by simp[z])) (fun z=>hc (by simp[z])) e⟩) (fun _ _ e=>e) (fun _ _ _ e=>e) (fun b ps e=>⟨#[],by rw[e]; simp⟩) (fun m hm=>?_) (fun b u e=>?_) I.bare
  · have e:b=a∨b=kS:=by simpa using hb
    rcases e with rfl|rfl
    · exact ⟨fa.2.2.2.1,fa.2.1,fa.2.2.2.2.1,fa.2.2.2.2.2⟩
    · exact ⟨fk.2.2.2.1,fk.2.1,fk.2.2.2.2.1,fk.2.2.2.2.2⟩
  · obtain ⟨o,es,ep,ho,r⟩:=hm
    exact ⟨o,es,ep,k _ o (Ne.symm fa.2.1) (Ne.symm fk.2.1) ho,r⟩
  · refine (I.hok b u e).stay (fun c v hc q=>k c v ?_ ?_ q) (fun _ q=>q) fun _ _ q=>q
    · rcases hc with z|z
      · rw[z]; exact (nit b u e).1
      · exact (nit c _ z).1
    · rcases hc with z|z
      · rw[z]; exact (nit b u e).2
      · exact (nit c _ z).2
theorem mG {H':Hp} {pins':List (Addr × Obj)} {a:Addr} (f:FpOk X pins H a) (h:H' a=none) (hp:∀p∈pins',p.1≠a):FpOk X pins' H' a:=
  ⟨h,f.2.1,f.2.2.1,f.2.2.2.1,f.2.2.2.2.1,fun p hq=>(List.mem_append.mp hq).elim (fun z=>f.2.2.2.2.2 p (List.mem_append_left _ z)) (hp p)⟩
/-- the keys are told one by one -/
theorem wj {A:Around} {E:Value→Shared→Prop} {f a kS:Addr} {vs:List Value} {kz:List PyData} {e1:Nat} {P:PySem.Fin→Shared→Prop} {fo:Obj} (G:List V→Hp→Prop) (I:Inv X pins σ H s)
    (nk:s.heap.get? kS=some (seqObj "list" #[] 0)) (na:s.heap.get? a=some (seqObj "list" #[] e1)) (hka:kS≠a) (fa:FpOk X pins H a) (fk:FpOk X pins H kS)
    (hf:s.heap.get? f=some fo) (hfn:H f=none) (hfl:f≠X.env.locals) (hfs:f∉X.fs) (hfc:∀v,fo.data≠.cell v) (hfa:f≠a) (hfk:f≠kS)
    (hlen:kz.length=vs.length) (hZ:vs.length≤sizeLine) (hal:AllAlike kz) (hsk:Sortable kz) (hu:∀d,d∈kz→A.units+d.depth<cLine) (G0:G [] H)
    (turn:∀(v:Value) (pins':List (Addr × Obj)) (s':Shared) (H':Hp) (kvs:List V),vs[kvs.length]?=some v→Inv X pins' σ H' s'→s'.heap.get? f=some fo→H' f=none→G kvs H'→
      wpAny (model X.prog X.w) A (PySem.call (.ref f) [v]) (EP X pins' σ fun kv H''=>G (kvs++[kv]) H'') (fun _ _=>False) s')
    (reads:∀(pins':List (Addr × Obj)) (s':Shared) (H':Hp) (kvs:List V) (us:List Value),Inv X pins' σ H' s'→G kvs H'→kvs.length=vs.length→Vals kvs us→EachIs (fun u d=>∃as,Reads s'.heap u d as) us kz)
    (h:∀s' H' kvs out c,Inv X pins σ H' s'→G kvs H'→kvs.length=vs.length→H' a=none→s'.heap.get? a=some (seqObj "list" (List.toArray out) c)→KeyedOut false kz vs out→P (.done (.ret .none)) s') :
    wpAny (model X.prog X.w) A (ksk_rest a (.ref f) false vs.toArray e1 (.ref kS)) P E s:=by
  unfold ksk_rest
  refine wpAny_bind (wpAny_rule ?_)
  first
    | rw[List.forIn_toArray]
    | (rw[←Array.forIn_toList]; simp only[List.toList_toArray])
    | rw[←Array.forIn_toList]
  refine wpAny_bind (ksk_fold (fun j s'=>∃(kA:Array Value) (e:Nat) (H':Hp) (kvs:List V),Inv X pins σ H' s'∧s'.heap.get? kS=some (seqObj "list" kA e)∧s'.heap.get? a=some (seqObj "list" #[] e1)∧s'.heap.get? f=some fo∧H' a=none∧H' kS=none∧H' f=none∧Vals kvs kA.toList∧kvs.length=j∧G kvs H') vs 0 s
    ⟨#[],0,H,[],I,nk,na,hf,fa.1,fk.1,hfn,.nil,rfl,G0⟩ ?step ?done)
  case step=>
    rintro j x s' hx ⟨kA,e,H',kvs,I',nk',na',hf',ha',hk',hff',rv,hkl,g⟩
    simp only[Nat.zero_add] at hkl ⊢
    have hj:j<vs.length:=(List.getElem?_eq_some_iff.mp hx).1
    have hz:kA.size≤vs.length:=by
      have:=rv.length
      simp at this
      omega
    have np:∀p∈pins,p.1≠a∧p.1≠kS:=fun p hp=>⟨fa.2.2.2.2.2 p (List.mem_append_right _ hp),fk.2.2.2.2.2 p (List.mem_append_right _ hp)⟩
    have Ip:Inv X (pins++[(a,seqObj "list" #[] e1),(kS,seqObj "list" kA e),(f,fo)]) σ H' s':=I'.pins_of fun p hp=>by
      rcases List.mem_append.mp hp with z|z
      · exact I'.pin p (List.mem_append_right _ z)
      · simp only[List.mem_cons,List.not_mem_nil,or_false] at z
        rcases z with rfl|rfl|rfl
        · exact ⟨na',ha',fa.2.1,fa.2.2.1,fun v z=>by cases z⟩
        · exact ⟨nk',hk',fk.2.1,fk.2.2.1,fun v z=>by cases z⟩
        · exact ⟨hf',hff',hfl,hfs,hfc⟩
    refine wpAny_bind (wpAny_attempt (wpAny_mono (turn x _ s' H' kvs (by rw[hkl]; exact hx) Ip hf' hff' g) (fun v s'' he=>?_) fun _ _ hF=>hF.elim))
    obtain ⟨kv,H2,I2,rkv,g2⟩:=he
    have pa:=I2.pin (a,seqObj "list" #[] e1) (List.mem_append_right _ (List.mem_append_right _ (by simp)))
    have pk:=I2.pin (kS,seqObj "list" kA e) (List.mem_append_right _ (List.mem_append_right _ (by simp)))
    have pf:=I2.pin (f,fo) (List.mem_append_right _ (List.mem_append_right _ (by simp)))
    have I3:Inv X pins σ H2 s'':=I2.pins_of fun p hp=>I2.pin p (List.mem_append_right _ (List.mem_append_left _ hp))
    try dsimp only
    have s1:=Heap.SameBut.update s''.heap kS (Obj.mapSeq (·.push v))
    obtain ⟨c2,hc2⟩:∃c2,(s''.heap.update kS (Obj.mapSeq (·.push v))).get? kS=some (seqObj "list" (kA.push v) c2):=⟨_,get?_update_seq pk.1 (·.push v)⟩
    have fk2:FpOk X pins H2 kS:=mG fk pk.2.1 fun p hp=>(np p hp).2
    refine wpAny_bind (listUpdate_at pk.1 rfl ?_ (Nat.le_trans hz hZ) (Nat.le_trans (Nat.le_of_eq (Array.size_push ..)) (Nat.succ_le_succ (Nat.le_trans hz hZ))))
    have I4:Inv X pins σ H2 { s'' with heap:=s''.heap.update kS (Obj.mapSeq (·.push v)) }:=I3.turned (t':=s''.toks) (it:=kS) (fun b o hb q=>(s1.2 b hb).trans q) fk2.1 fk2.2.1 fk2.2.2.2.1 fk2.2.2.2.2.1 fk2.2.2.2.2.2
    have rv2:Vals (kvs++[kv]) (kA.push v).toList:=by
      rw[Array.toList_push]
      exact Vals.append rv (.cons rkv .nil)
    exact wpAny_pure ⟨rfl,kA.push v,c2,H2,kvs++[kv],I4,hc2,(s1.2 a hka.symm).trans pa.1,(s1.2 f hfk).trans pf.1,pa.2.1,pk.2.1,pf.2.1,rv2,by simp[hkl],g2⟩
  case done=>
    rintro s' ⟨kA,e,H',kvs,I',nk',na',hf',ha',hk',hff',rv,hkl,g⟩
    have hkl:kvs.length=vs.length:=by simpa using hkl
    have hr:=reads pins s' H' kvs kA.toList I' g hkl rv
    have hsz:kA.size=vs.length:=by
      have:=rv.length
      simp at this
      omega
    have np:∀p∈pins,p.1≠a∧p.1≠kS:=fun p hp=>⟨fa.2.2.2.2.2 p (List.mem_append_right _ hp),fk.2.2.2.2.2 p (List.mem_append_right _ hp)⟩
    try dsimp only
    refine wpAny_bind (listItems_at nk' rfl ?_)
    exact yL (κ:=dataKind s'.heap kz) nk' na' hka (SortsAt.data (s:=s') hr hal hsk hu) hsz hZ fun h3 tk3 c k3 _ n3=>
      h _ H' kvs _ c (r9 I' k3 (mG fa ha' fun p hp=>(np p hp).1) (mG fk hk' fun p hp=>(np p hp).2)) g hkl ha' n3 ⟨s'.heap,kA.toList,hal,rfl,hr⟩
end
end DL
namespace DL
open PySem PySem.Spec PyProof.Rows L2 LamX PySem.W
section
variable {X:Cx} {pins:List (Addr × Obj)} {σ:L2.St} {H:Hp} {s:Shared} {h':Heap}
/-- an untracked object of ours is tracked from now on -/
theorem wk {a:Addr} {o:HO} (I:Inv X pins σ H s) (fa:FpOk X pins H a) (hz:X.s_0.heap.objs.size≤a) (new:ObjOk X.prog X.w (upd H a o) s.heap a o):Inv X pins σ (upd H a o) s:=by
  have nn:∀b u,H b=some u→b≠a:=fun b u e z=>by rw[z,fa.1] at e; cases e
  have na:∀b:Addr,b≠a→upd H a o b=H b:=fun b n=>upd_ne n
  have n0:∀b ob,X.s_0.heap.get? b=some ob→b≠a:=fun b ob e z=>absurd (Nat.lt_of_lt_of_le (Heap.lt_size e) (by rw[z]; exact hz)) (Nat.lt_irrefl _)
  refine ⟨I.ok,I.os,I.bare,⟨fun b ob e n hb hx=>I.base.keep b ob e n hb hx,fun b ob e n hb hx=>I.base.slot b ob e n hb hx,fun b ob e n hx=>by rw[na b (n0 b ob e)]; exact I.base.free b ob e n hx,fun b ob e hx=>I.base.there b ob e hx,fun b xs e=>?_,fun b ob xs e=>?_,fun b ps e=>?_⟩,I.loc,I.cell,?_,fun x c e=>?_,fun p hp=>?_,fun b u e=>?_,I.len⟩
  · have:=I.base.tups b xs e
    rw[na b (nn b _ this)]; exact this
  · have:=I.base.frzs b ob xs e
    rw[na b (nn b _ this)]; exact this
  · obtain ⟨m,q⟩:=I.base.tbls b ps e
    exact ⟨m,by rw[na b (nn b _ q)]; exact q⟩
  · rw[na _ (Ne.symm fa.2.1)]; exact I.free
  · rw[na _ (fa.2.2.2.2.1 x c e)]; exact I.freeC x c e
  · obtain ⟨e1,e2,e3,e4,e5⟩:=I.pin p hp
    exact ⟨e1,by rw[na _ (fa.2.2.2.2.2 p hp)]; exact e2,e3,e4,e5⟩
  · by_cases hb:b=a
    · subst hb
      rw[upd_same] at e
      cases e
      exact new
    · rw[na b hb] at e
      exact (I.hok b u e).stay (fun c v _ q=>q) (fun c q=>by rw[na c (nn c _ q)]; exact q) fun c xs q=>by rw[na c (nn c _ q)]; exact q
theorem z3 {l f:Addr} {vs:List Value} {kz:List PyData} {fo:Obj} {E:Value→Shared→Prop} {Q:Value→Shared→Prop} (G:List V→Hp→Prop) (I:Inv X pins σ H s) (hl:s.heap.IsList l vs.toArray) (hL:vs.length≤sizeLine)
    (hf:s.heap.get? f=some fo) (hfn:H f=none) (hfl:f≠X.env.locals) (hfs:f∉X.fs) (hfc:∀v,fo.data≠.cell v)
    (hlen:kz.length=vs.length) (hal:AllAlike kz) (hsk:Sortable kz) (hu:∀d,d∈kz→X.A.units+2+d.depth<cLine) (G0:G [] H)
    (turn:∀(v:Value) (pins':List (Addr × Obj)) (s':Shared) (H':Hp) (kvs:List V),vs[kvs.length]?=some v→Inv X pins' σ H' s'→s'.heap.get? f=some fo→H' f=none→G kvs H'→
      wpAny (model X.prog X.w) X.A.in1.in1 (PySem.call (.ref f) [v]) (EP X pins' σ fun kv H''=>G (kvs++[kv]) H'') (fun _ _=>False) s')
    (reads:∀(pins':List (Addr × Obj)) (s':Shared) (H':Hp) (kvs:List V) (us:List Value),Inv X pins' σ H' s'→G kvs H'→kvs.length=vs.length→Vals kvs us→EachIs (fun u d=>∃as,Reads s'.heap u d as) us kz)
    (h:∀s' H' kvs D out c,Inv X pins σ H' s'→G kvs H'→kvs.length=vs.length→FpOk X pins H' D→X.s_0.heap.objs.size≤D→s'.heap.get? D=some (seqObj "list" (List.toArray out) c)→KeyedOut false kz vs out→Q (.ref D) s') :
    wpAny (model X.prog X.w) X.A (PySem.call (.builtin "sorted") [.ref l] [(Str.ofString "key",.ref f)]) Q E s:=by
  have hsz:s.heap.objs.size≤s.heap.objs.size+1:=Nat.le_succ _
  have hHa:H (s.heap.objs.size+1)=none:=I.hok.fresh hsz
  have fa:FpOk X pins H (s.heap.objs.size+1):=I.fpOk hsz hHa
  have hfa:f≠s.heap.objs.size+1:=Nat.ne_of_lt (Nat.lt_succ_of_lt (Heap.lt_size hf))
  refine sorted_of_sort hl hL (ksk_s1 _ _) (fun _=>ksk_l1 _ _) fun E'=>?_
  rw[ksk_t1]
  have ho:=copyHeap_at s.heap vs
  generalize ha:s.heap.objs.size+1=a at *
  obtain ⟨e1,ho1⟩:∃e1,((copyHeap s.heap vs).update a (Obj.mapSeq fun _=>(#[]:Array Value))).get? a=some (seqObj "list" #[] e1):=⟨_,get?_update_seq ho fun _=>#[]⟩
  have hkS:(((copyHeap s.heap vs).update a (Obj.mapSeq fun _=>(#[]:Array Value))).push (seqObj "tuple" vs.toArray 0)).objs.size=(copyHeap s.heap vs).objs.size+1:=by rw[size_push',Heap.size_update]
  have hac:a<(copyHeap s.heap vs).objs.size:=Heap.lt_size ho
  unfold ksk_tree
  refine wpAny_bind (listItems_at ho rfl ?_)
  refine wpAny_bind (listUpdate_at ho rfl ?_ (by rw[List.size_toArray]; exact hL) (Nat.zero_le _))
  refine wpAny_bind (seqEpoch_at ho1 rfl ?_)
  refine wpAny_bind (wpAny_newTuple ?_ (by show vs.length≤_; exact hL))
  refine wpAny_bind (wpAny_newList ?_ (Nat.zero_le _))
  refine wpAny_holding ?_
  have kp:∀b o,s.heap.get? b=some o→((((copyHeap s.heap vs).update a (Obj.mapSeq fun _=>(#[]:Array Value))).push (seqObj "tuple" vs.toArray 0)).push (seqObj "list" #[] 0)).get? b=some o:=fun b o e=>by
    have hb:b≠a:=by rw[←ha]; exact Nat.ne_of_lt (Nat.lt_succ_of_lt (Heap.lt_size e))
    exact Heap.get?_push_of_some _ (Heap.get?_push_of_some _ (((Heap.SameBut.update (copyHeap s.heap vs) a (Obj.mapSeq fun _=>(#[]:Array Value))).2 b hb).trans (copyHeap_old e)))
  have I1:Inv X pins σ H { s with heap:=(((copyHeap s.heap vs).update a (Obj.mapSeq fun _=>(#[]:Array Value))).push (seqObj "tuple" vs.toArray 0)).push (seqObj "list" #[] 0) }:=I.kept (t':=s.toks) kp
  have hks0:s.heap.objs.size≤(((copyHeap s.heap vs).update a (Obj.mapSeq fun _=>(#[]:Array Value))).push (seqObj "tuple" vs.toArray 0)).objs.size:=by rw[hkS]; omega
  refine wj (kz:=kz) (fo:=fo) (s:={ s with heap:=(((copyHeap s.heap vs).update a (Obj.mapSeq fun _=>(#[]:Array Value))).push (seqObj "tuple" vs.toArray 0)).push (seqObj "list" #[] 0) }) (kS:=(((copyHeap s.heap vs).update a (Obj.mapSeq fun _=>(#[]:Array Value))).push (seqObj "tuple" vs.toArray 0)).objs.size)
    G I1 (Heap.get?_push_size _ rfl) (Heap.get?_push_of_some _ (Heap.get?_push_of_some _ ho1)) (Nat.ne_of_gt (Nat.lt_of_lt_of_le hac (by rw[hkS]; exact Nat.le_succ _))) fa (I.fpOk hks0 (I.hok.fresh hks0)) (kp _ _ hf) hfn hfl hfs hfc hfa (Nat.ne_of_lt (Nat.lt_of_lt_of_le (Heap.lt_size hf) hks0)) hlen hL hal hsk hu G0 turn reads
    fun s' H' kvs out c I' g hk hHa' hD ko=>⟨rfl,h s' H' kvs a out c I' g hk (mG fa hHa' fun p hp=>fa.2.2.2.2.2 p (List.mem_append_right _ hp)) (by have:=I.sz; omega) hD ko⟩
end
end DL
namespace DL
open PySem PySem.Spec PyProof.Rows L2 LamX PySem.W
/-- the keys,one behind the other -/
def fj (mk:ME) (i:Nat) (env:En):List D→List D→Sto→Res (List D)
  | [],acc,S=>.ok acc S
  | d::ds,acc,S=>(mk (env.set i (some d)) S).bindS fun k S=>fj mk i env ds (acc++[k]) S
def jV (xs ks:List D):List D:=((xs.zip ks).mergeSort fun a b=>dle a.2 b.2).map (·.1)
def gY (m:ME) (i:Nat) (mk:ME):ME:=fun env S=>(m env S).bind fun d S=>match di S d with
  | some xs=>(fj mk i env xs [] S).bindS fun ks S=>if fJ ks=true∧xs.length≤1000000 then .ok (.loc S.length) (S++[.lst (jV xs ks)]) else .stuck
  | none=>.stuck
theorem pE {mk:ME} {i:Nat} {env:En}:∀ {ds acc ks:List D} {S Sn:Sto},fj mk i env ds acc S=.ok ks Sn→ks.length=acc.length+ds.length
  | [],acc,ks,S,Sn,h=>by unfold fj at h; cases h; simp
  | d::ds,acc,ks,S,Sn,h=>by
    unfold fj at h
    cases hm:mk (env.set i (some d)) S with
    | ok k S1=>rw[hm] at h; have:=pE h; simp at this ⊢; omega
    | exc e S1=>rw[hm] at h; cases h
    | stuck=>rw[hm] at h; cases h
section
variable {X:Cx} {W:WX} {e body:Expr} {p kpos lpos pos:Pos} {m mk:ME} {params:Arguments} {scope:Scope} {i k:Nat} {x:Str} {pq:Str × Option Str}
theorem sA {pins:List (Addr × Obj)} {s:Shared} {σ:L2.St} {H:Hp} {μ:Mu} (I:L2.Inv X pins σ H s):∀ {ds:List D} {vs:List V} {us:List Value},(∀d∈ds,dok 60 d=true)→RepAll X.K X.mg μ H ds vs→Vals vs us→PySem.W.EachIs (fun u d=>∃as,Reads s.heap u d as) us (ds.map pdF)
  | [],vs,us,_,ra,r=>by
    unfold RepAll at ra; subst ra; cases r; exact .nil
  | d::ds,vs,us,h,ra,r=>by
    unfold RepAll at ra
    obtain ⟨v,q,rfl,h1,h2⟩:=ra
    cases r with
    | cons r1 r2=>exact .cons (Dp.reads I _ _ _ (gJ 60 d v (h d List.mem_cons_self) h1.w) r1) (sA I (fun x hx=>h x (List.mem_cons_of_mem _ hx)) h2 r2)
theorem sB:∀ {ds ks:List D} {vs:List V} {us:List Value},ds.length=vs.length→ks.length=vs.length→Vals vs us→PySem.W.EachIs (fun u (b:(D × V) × D)=>L2.RelV b.1.2 u) us ((ds.zip vs).zip ks)
  | [],[],[],_,_,_,r=>by cases r; exact .nil
  | d::ds,k::ks,v::vs,_,h,h2,r=>by
    cases r with
    | cons h3 h4=>
      rw[List.zip_cons_cons,List.zip_cons_cons]
      exact .cons h3 (sB (by simpa using h) (by simpa using h2) h4)
  | [],_,_::_,_,h,_,_=>by simp at h
  | _::_,_,[],_,h,_,_=>by simp at h
  | _,[],_::_,_,_,h,_=>by simp at h
  | _,_::_,[],_,_,h,_=>by simp at h
theorem nE:∀ {us:List Value} {bs:List ((D × V) × D)},PySem.W.EachIs (fun u (b:(D × V) × D)=>L2.RelV b.1.2 u) us bs→Vals (bs.map (·.1.2)) us
  | _,_,.nil=>.nil
  | _,_,.cons h t=>.cons h (nE t)
theorem yM {K:PySem.W.Frag} {mg:Str→Option Value} {μ:Mu} {H:Hp} {S:Sto} (rs:RelS K mg μ H S) {c a:Addr} {q:Str} (e:H a=some (CodeO c q)):a∉μ:=fun z=>by
  rcases z with z|z
  · obtain ⟨l,hl,e2⟩:=List.getElem_of_mem z
    exact rs.ncode (l:=l) (by rw[List.getElem?_eq_getElem hl,e2]) e
  · obtain ⟨u,h1,h2⟩:=rs.hid a z
    rw[e] at h1
    cases h1
    exact h2.nc c q rfl
theorem uk (hg:Gl X "sorted") (hm:X.mg "sorted"=none) (lh:LamHere X pq) (hr:Room (k+3) X.A) (hu:X.A.units+65<cLine) (L:LamS1 X.env.scope scope x) (nd:X.N.Nodup) (hi:X.N[i]?=some x) (ha:PE X e (tE X W m))
    (hbody:∀(A:Around) (outer:List Env) (s:Shared) (H:Hp) (f c':Addr),Room k (lamCx X A outer s H (fun _ _ _=>False) scope f c').A→PE (lamCx X A outer s H (fun _ _ _=>False) scope f c') body (tE (lamCx X A outer s H (fun _ _ _=>False) scope f c') W0 mk))
    (hdef:defaultsOf params X.env=([],[]):=by rfl)
    (hbind:∀(q:Str) (cl:List (Str × Addr)) (pm cv ctv u:Value),bindArgs (PySem.W.kla_fn "<lambda>" q params body scope cl pm cv ctv) ⟨[u],[]⟩=pure [(x,u)]:=by intros; rfl)
    (he:backTo pos (starEach [e] X.env)=(false,eval e X.env)::backTo pos (starEach [] X.env):=by rfl) (hpl:(backTo pos (starEach [e] X.env)).any (·.1)=false:=by rfl) (hs:starEach [e] X.env=(false,eval e X.env)::starEach [] X.env:=by rfl)
    (hall:(backToKw pos (keywordEach [⟨some (Str.ofString "key"),.Lambda params body scope lpos,kpos⟩] X.env)).all (·.1.isSome)=true:=by rfl) (hnone:(backToKw pos (keywordEach [⟨some (Str.ofString "key"),.Lambda params body scope lpos,kpos⟩] X.env)).any (·.1.isNone)=false:=by rfl) :
    PE X (.Call (.Name "sorted" p) [e] [⟨some (Str.ofString "key"),.Lambda params body scope lpos,kpos⟩] pos) (tE X W (gY m i mk)):=by
  refine ⟨fun pins s σ H Q I h=>?_⟩
  obtain ⟨env,S,μ,rl,o⟩:=h
  refine wpAny_Call_Name_kw (ld_blt I hg hm (u:=.builtin "sorted") (by rfl) ?_)
  refine PyProof.Rows.callWith_kw (thn ((pa_cons ha pa_nil hs).run pos pins s σ H (fun vs H1=>∃v,vs=[v]∧∃μ1 S1 d,Step μ H μ1 H1∧RelS X.K X.mg μ1 H1 S1∧Rep X.K X.mg μ1 H1 d v∧Out X.K X.mg W σ μ1 H1 (fun μ H a b=>Rep X.K X.mg μ H a b) Q (match di S1 d with
      | some xs=>(fj mk i env xs [] S1).bindS fun ks S=>if fJ ks=true∧xs.length≤1000000 then .ok (.loc S.length) (S++[.lst (jV xs ks)]) else .stuck
      | none=>.stuck)) I ⟨env,S,μ,rl,(Out.bind o).mono fun v H1 q=>⟨v,rfl,q⟩⟩) fun us s1 ⟨vs,H1,I1,r1,v,ev,μ1,S1,d,st1,rs1,rd,o1⟩=>?_) he hpl hall hnone
  subst ev
  cases r1 with
  | cons rv rn=>
  cases rn
  cases hso:di S1 d with
  | none=>rw[hso] at o1; exact o1.elim
  | some xs=>
  rw[hso] at o1
  simp only at o1
  obtain ⟨a,itv,rfl,hsq,rxs⟩:=oy rs1 rd hso
  cases hk:fj mk i env xs [] S1 with
  | exc _ _=>rw[hk] at o1; exact o1.elim
  | stuck=>rw[hk] at o1; exact o1.elim
  | ok ks Sn=>
  rw[hk] at o1
  simp only[Res.bindS] at o1
  split at o1
  case isFalse=>exact o1.elim
  rename_i hok
  have hxl:=rxs.length
  have hkl:ks.length=xs.length:=by simpa using pE hk
  obtain ⟨g1,g2,g3⟩:=jT hok.1
  refine wpAny_evalAll_cons (wpAny_bind (lam_make2 (T:=tbs X.K) I1 lh.tb lh.code lh.mem lh.uniq rs1.tab hdef (L.has I1.ok) fun f c' pm ctv H2 s2 I2 eN T2 hf hfn hfr hco=>wpAny_bind (wpAny_standAt (wpAny_pure ?_))))
  refine wpAny_evalAll_nil ?_
  obtain ⟨st2,rs2⟩:=kq rs1 eN T2
  have rxs2:=RepAll.step st2 _ _ rxs
  have hsq2:SqL X.K H2 a itv:=by
    rcases hsq with hq|hq
    · rcases hq with hq|⟨ob,hq⟩
      · exact .inl (.inl (eN _ _ hq fun ps z=>by cases z))
      · exact .inl (.inr ⟨ob,eN _ _ hq fun ps z=>by cases z⟩)
    · exact .inr hq
  obtain ⟨its,rvs,hl,hz⟩:=I2.list hsq2
  have hua:its.length=xs.length:=by rw[hxl,rvs.length]
  rw[Vals.ref1 (.cons rv .nil)]
  have hfL:f≠X.env.locals:=fun z=>by
    obtain ⟨m',⟨ob,es,ep,ho,hd,_⟩,_⟩:=I2.loc
    rw[←z,hf] at ho
    cases ho
    cases hd
  have hfs:f∉X.fs:=fun z=>hfr (by
    have z:f∈frs X.outer:=z
    show f∈frs X.stack
    rcases I2.ok.stk with e|⟨e,_⟩
    · rw[e]; exact z
    · rw[e]
      unfold frs at z ⊢
      rw[List.filterMap_cons]
      split
      · exact z
      · exact List.mem_cons_of_mem _ z)
  have hc2:H2 c'=some (CodeO c' (X.env.qual++"<lambda>")):=hco
  have hcn:c'∉μ1:=yM rs2 hc2
  have hr2:Room (k+1) X.A.in1.in1:=Room.in1 (Room.in1 hr)
  have hsz:its.length≤sizeLine:=by rw[hua]; exact cp hok.2
  show wpAny (model X.prog X.w) X.A (PySem.call (.builtin "sorted") [.ref a] [(Str.ofString "key",.ref f)]) _ _ s2
  refine z3 (kz:=ks.map pdF) (vs:=its) (fo:=PySem.W.kla_obj "<lambda>" (X.env.qual++"<lambda>") params body scope (cloFrom X.env.cells scope.names []) pm c' ctv)
    (fun kvs H'=>∃μ' S' ks',Step μ1 H2 μ' H'∧RelS X.K X.mg μ' H' S'∧RepAll X.K X.mg μ' H' ks' kvs∧fj mk i env (xs.drop kvs.length) ks' S'=.ok ks Sn)
    I2 hl.isList hsz hf hfn hfL hfs (fun v z=>by cases z) (by rw[List.length_map,hkl,hua]) g1 g2 (fun d hd=>?_) ⟨μ1,S1,[],.refl,rs2,.nil,hk⟩ ?turn ?reads ?fin
  · obtain ⟨b,hb,rfl⟩:=List.mem_map.mp hd
    have:=(eR 60 b (g3 b hb)).2
    omega
  case turn=>
    rintro v pins' s' H' kvs hv I' hf' hfn' ⟨μ',S',ks',st',rs',ra',hks⟩
    have hj:kvs.length<its.length:=(List.getElem?_eq_some_iff.mp hv).1
    have hd:xs[kvs.length]?=some (xs[kvs.length]'(by omega)):=List.getElem?_eq_getElem (by omega)
    obtain ⟨vv,hvv,rvv⟩:=rxs2.get hd
    obtain ⟨u,hu1,hu2⟩:=rvs.get hvv
    rw[hv] at hu1
    cases hu1
    generalize xs[kvs.length]'(by omega)=dd at hd rvv
    have hdr:xs.drop kvs.length=dd::xs.drop (kvs.length+1):=by
      rw[List.drop_eq_getElem_cons (by omega)]
      rw[List.getElem?_eq_getElem (by omega)] at hd
      cases hd
      rfl
    rw[hdr] at hks
    unfold fj at hks
    cases hm:mk (env.set i (some dd)) S' with
    | exc _ _=>rw[hm] at hks; cases hks
    | stuck=>rw[hm] at hks; cases hks
    | ok kk S2=>
      rw[hm] at hks
      simp only[Res.bindS] at hks
      have hco':H' c'=some (CodeO c' (X.env.qual++"<lambda>")):=st'.keep c' _ hc2 hcn (fun ps z=>codeO_ne ps z)
      refine wg (k:=k) (tb:=tE X W0 mk) I' I'.env0.in1.in1 L nd hi hf' hco' (hbind _ _ _ _ _ _) hr2 hu2 (fun A outer s H hr3=>?_) ?_
      · exact hbody A outer s H f c' hr3
      · refine ⟨env.set i (some dd),S',μ',⟨RelE.set (((rl.env.step st1).step st2).step st') (Rep.step st' _ _ rvv),rs'⟩,?_⟩
        rw[hm]
        exact fun μ3 H3 b st3 rs3 rb=>⟨μ3,S2,ks'++[kk],st'.trans st3,rs3,(RepAll.step st3 _ _ ra').append (.cons rb .nil),by rw[List.length_append]; exact hks⟩
  case reads=>
    rintro pins' s' H' kvs us I' ⟨μ',S',ks',st',rs',ra',hks⟩ hkv rus
    rw[List.drop_eq_nil_of_le (by omega)] at hks
    unfold fj at hks
    cases hks
    exact sA I' g3 ra' rus
  case fin=>
    rintro s' H' kvs Da out c I' ⟨μ',S',ks',st',rs',ra',hks⟩ hkv fD hz0 hD ko
    rw[List.drop_eq_nil_of_le (by omega)] at hks
    unfold fj at hks
    cases hks
    have hb:((xs.zip itv).zip ks).map (fun b=>pdF b.2)=ks.map pdF:=by
      have h1:((xs.zip itv).zip ks).map (·.2)=ks:=List.map_snd_zip (by rw[List.length_zip,hkl,hxl]; omega)
      conv=>rhs; rw[←h1,List.map_map]
      rfl
    rw[←hb] at ko
    have hE:=keyedOut_each (R:=fun u (b:(D × V) × D)=>L2.RelV b.1.2 u) (fun b=>pdF b.2) ko (sB hxl (by rw[hkl,hxl]) rvs)
    have rv':=nE hE
    generalize hbs:((xs.zip itv).zip ks).mergeSort (PySem.W.dataLe false fun b=>pdF b.2)=bs at hE rv'
    have hmem:∀b∈bs,b∈(xs.zip itv).zip ks:=fun b hb=>by rw[←hbs] at hb; exact List.mem_mergeSort.mp hb
    have rr:RepAll X.K X.mg μ' H' (bs.map (·.1.1)) (bs.map (·.1.2)):=by
      have:=kj (K:=X.K) (mg:=X.mg) (μ:=μ') (H:=H') (ps:=bs.map (·.1)) (fun p hp=>by
        obtain ⟨b,hb,rfl⟩:=List.mem_map.mp hp
        exact Rep.step st' _ _ (jU rxs2 _ (List.of_mem_zip (hmem b hb)).1))
      rw[List.map_map,List.map_map] at this
      exact this
    have hby:bs.map (·.1.1)=jV xs ks:=by
      have h2:((xs.zip itv).zip ks).map (fun b:(D × V) × D=>(b.1.1,b.2))=xs.zip ks:=by
        have:∀(xs:List D) (vs:List V) (ks:List D),xs.length=vs.length→((xs.zip vs).zip ks).map (fun b:(D × V) × D=>(b.1.1,b.2))=xs.zip ks:=by
          intro xs
          induction xs with
          | nil=>intro vs ks _; simp
          | cons x xs ih=>
            intro vs ks h
            cases vs with
            | nil=>simp at h
            | cons v vs=>
              cases ks with
              | nil=>simp
              | cons k ks=>simp[ih vs ks (by simpa using h)]
        exact this xs itv ks hxl
      unfold jV
      have h3:(((xs.zip itv).zip ks).mergeSort (PySem.W.dataLe false fun b:(D × V) × D=>pdF b.2)).map (fun b:(D × V) × D=>(b.1.1,b.2))=(((xs.zip itv).zip ks).map (fun b:(D × V) × D=>(b.1.1,b.2))).mergeSort (fun a b=>dle a.2 b.2):=
        List.map_mergeSort (fun a _ b _=>rfl)
      rw[←h2,←h3,hbs,List.map_map]
      rfl
    have hlenb:(bs.map (·.1.2)).length≤sizeLine:=by
      rw[List.length_map,←hbs,List.length_mergeSort,List.length_zip,List.length_zip]
      omega
    rw[hby] at rr
    obtain ⟨q1,q2,q3⟩:=vm rs' fD.1 rr
    have I4:Inv X pins σ (upd H' Da (.lst (bs.map (·.1.2)))) s':=wk I' fD hz0 ⟨hlenb,out,c,rv',hD⟩
    exact ⟨.ref Da,_,I4,rfl,Out.of_step (st2.trans st') o1 _ _ _ q1 q2 q3⟩
end
end DL
namespace DL
open PySem PySem.Spec PyProof.Rows L2 LamX
section
variable {K:PySem.W.Frag} {mg:Str→Option Value} {μ μ':Mu} {H H':Hp} {S S':Sto} {env:En} {σ:L2.St} {l:Nat} {t:Bool} {kvs:List (D × D)} {a:Addr} {u:HO}
theorem RelS.dict (rs:RelS K mg μ H S) (e:S[l]?=some (.dct t kvs)):∃a u,μ.l[l]?=some a∧H a=some u∧Mut (some u)∧NF H a∧(∀ps,u≠.tbl ps)∧RepO K mg μ H (.dct t kvs) a:=by
  obtain ⟨a,h1,h2⟩:=rs.at_ l _ e
  cases t with
  | false=>
    obtain ⟨vs,ks,⟨q,hk⟩,rr⟩:=id h2
    exact ⟨a,_,h1,q,trivial,.of q,fun _ z=>(nomatch z),h2⟩
  | true=>
    obtain ⟨vs,ks,⟨q,hk⟩,rr⟩:=id h2
    exact ⟨a,_,h1,q,trivial,.of q,fun _ z=>(nomatch z),h2⟩
/-- locked -/
theorem z4 (rl:Rl K mg μ H env σ S) (e:S[l]?=some (.dct t kvs)) (hμ:μ.l[l]?=some a) (ha:H a=some u) (nf:NF H a) (r:RepO K mg μ H (.dct t kvs) a) (od:Obj):Step μ H μ (upd H a (.frz od u))∧Rl K mg μ (upd H a (.frz od u)) env σ (S.set l (.fdc t kvs)):=by
  have st:Step μ H μ (upd H a (.frz od u)):=Step.write rl.sto hμ nf
  refine ⟨st,rl.env.step st,rl.sto.write hμ nf ?_⟩
  cases t with
  | false=>
    obtain ⟨vs,ks,⟨q,hk⟩,rr⟩:=r
    rw[ha] at q
    cases q
    exact ⟨vs,ks,⟨⟨od,upd_same⟩,hk⟩,RepAll.step st _ _ rr⟩
  | true=>
    obtain ⟨vs,ks,⟨q,hk⟩,rr⟩:=r
    rw[ha] at q
    cases q
    exact ⟨vs,ks,⟨⟨od,upd_same⟩,hk⟩,RepAll.step st _ _ rr⟩
/-- let go -/
theorem jq {od:Obj} (rs:RelS K mg μ H S) (hμ:μ.l[l]?=some a) (ha:H a=some u) (nf:NF H a) (nt:∀ps,u≠.tbl ps) (r:RepO K mg μ H (.dct t kvs) a) (st:Step μ (upd H a (.frz od u)) μ' H') (rs':RelS K mg μ' H' S') :
    H' a=some (.frz od u)∧StpW μ' H' μ' (upd H' a u)∧Step μ H μ' (upd H' a u)∧RelS K mg μ' (upd H' a u) (S'.set l (.dct t kvs)):=by
  have hf:H' a=some (.frz od u):=st.kf a od u upd_same
  have hμ':μ'.l[l]?=some a:=st.get hμ
  have ha':a∈μ'.l:=List.mem_of_getElem? hμ'
  have nh:a∉μ'.h:=rs'.dis a ha'
  have w:StpW μ' H' μ' (upd H' a u):=⟨⟨[],by simp⟩,fun _ h=>.inl h,fun b o e n _=>by
    have:b≠a:=fun z=>n (z▸.inl ha')
    rw[upd_ne this]; exact e⟩
  have ne:∀b o,H b=some o→b≠a→upd H a (.frz od u) b=some o:=fun b o e n=>by rw[upd_ne n]; exact e
  have whole:Step μ H μ' (upd H' a u):=by
    refine ⟨⟨⟨st.pre,fun b hb=>?_,fun b o e n nt=>?_⟩,fun b o v e=>?_⟩,st.hid,fun b v hb e nt=>?_⟩
    · rcases st.new b hb with z|z
      · exact .inl z
      · by_cases hba:b=a
        · subst hba; exact .inl (.inl (List.mem_of_getElem? hμ))
        · exact .inr fun o q=>z o (ne b o q hba)
    · have hba:b≠a:=fun z=>n (z▸.inl (List.mem_of_getElem? hμ))
      rw[upd_ne hba]
      exact st.keep b o (ne b o e hba) n nt
    · have hba:b≠a:=nf.ne e
      rw[upd_ne hba]
      exact st.kf b o v (ne b _ e hba)
    · have hba:b≠a:=fun z=>nh (by rw[st.hid]; subst z; exact hb)
      rw[upd_ne hba]
      exact st.hk b v hb (ne b v e hba) nt
  refine ⟨hf,w,whole,by simp[rs'.len],rs'.nd,rs'.dis,fun b hb=>?_,fun j o e=>?_,mR rs'.tab (fun ps z=>by rw[hf] at z; cases z) fun c q z=>by rw[hf] at z; unfold LamX.CodeO at z; cases z⟩
  · obtain ⟨v,e,tt⟩:=rs'.hid b hb
    have hba:b≠a:=fun z=>by subst z; exact nh hb
    exact ⟨v,by rw[upd_ne hba]; exact e,tt⟩
  · by_cases hj:j=l
    · subst hj
      have hl:j<S'.length:=by
        have:=(List.getElem?_eq_some_iff.mp e).1; simpa using this
      rw[List.getElem?_set_self hl] at e
      cases e
      refine ⟨a,hμ',?_⟩
      cases t with
      | false=>
        obtain ⟨vs,ks,⟨q,hk⟩,rr⟩:=r
        rw[ha] at q
        cases q
        exact ⟨vs,ks,⟨upd_same,hk⟩,RepAll.step whole _ _ rr⟩
      | true=>
        obtain ⟨vs,ks,⟨q,hk⟩,rr⟩:=r
        rw[ha] at q
        cases q
        exact ⟨vs,ks,⟨upd_same,hk⟩,RepAll.step whole _ _ rr⟩
    · rw[List.getElem?_set_ne (Ne.symm hj)] at e
      obtain ⟨b,h1,h2⟩:=rs'.at_ j o e
      have na:b≠a:=fun z=>by
        subst z
        have e1:=List.getElem?_eq_some_iff.mp h1
        have e2:=List.getElem?_eq_some_iff.mp hμ'
        exact hj ((List.getElem_inj rs'.nd).mp (e1.2.trans e2.2.symm))
      exact ⟨b,h1,h2.stepW w fun w q=>by rw[upd_ne na]; exact q⟩
end
/-- the dict that ml tells is locked while mb runs -/
def eLock (ml mb:ME):ME:=fun env S=>match ml env S with
  | .ok (.loc l) _=>match S[l]? with
    | some (.dct t kvs)=>match mb env (S.set l (.fdc t kvs)) with
      | .ok d S'=>.ok d (S'.set l (.dct t kvs))
      | _=>.stuck
    | _=>.stuck
  | _=>.stuck
def sC (ml:ME) (mb:MS):MS:=fun env S=>match ml env S with
  | .ok (.loc l) _=>match S[l]? with
    | some (.dct t kvs)=>match mb env (S.set l (.fdc t kvs)) with
      | .next e S'=>.next e (S'.set l (.dct t kvs))
      | .brk e S'=>.brk e (S'.set l (.dct t kvs))
      | .cont e S'=>.cont e (S'.set l (.dct t kvs))
      | .ret d S'=>.ret d (S'.set l (.dct t kvs))
      | _=>.stuck
    | _=>.stuck
  | _=>.stuck
section
variable {X:Cx} {W:WX} {e:Expr} {st:Stmt} {ml mb:ME} {ms:MS}
theorem z5 (h:PS X st (tS X W ms)):PS X st (tS X W (sC ml ms)):=fZ (ps_lock h) fun D σ H ⟨env,S,μ,rl,o⟩=>by
  unfold sC at o
  split at o
  · rename_i l S1 _
    split at o
    · rename_i t kvs es
      obtain ⟨a,u,hμ,ha,mu,nf,nt,r⟩:=rl.sto.dict es
      refine ⟨a,u,ha,mu,fun od=>?_⟩
      obtain ⟨st1,rl1⟩:=z4 rl es hμ ha nf r od
      refine ⟨env,_,μ,rl1,?_⟩
      cases hm:ms env (S.set l (.fdc t kvs)) with
      | next e S'=>
        rw[hm] at o
        intro μ' H' σ' st' re' rs'
        obtain ⟨h1,h2,h3,h4⟩:=jq rl.sto hμ ha nf nt r st' rs'
        exact ⟨h1,o μ' _ σ' h3 (re'.stpW h2) h4⟩
      | brk e S'=>
        rw[hm] at o
        intro μ' H' σ' st' re' rs'
        obtain ⟨h1,h2,h3,h4⟩:=jq rl.sto hμ ha nf nt r st' rs'
        exact ⟨h1,o μ' _ σ' h3 (re'.stpW h2) h4⟩
      | cont e S'=>
        rw[hm] at o
        intro μ' H' σ' st' re' rs'
        obtain ⟨h1,h2,h3,h4⟩:=jq rl.sto hμ ha nf nt r st' rs'
        exact ⟨h1,o μ' _ σ' h3 (re'.stpW h2) h4⟩
      | ret d S'=>
        rw[hm] at o
        intro μ' H' v st' rs' rb
        obtain ⟨h1,h2,h3,h4⟩:=jq rl.sto hμ ha nf nt r st' rs'
        exact ⟨h1,o μ' _ v h3 h4 (Rep.stpW h2 _ _ rb)⟩
      | exc _ _ _=>rw[hm] at o; exact o.elim
      | stuck=>rw[hm] at o; exact o.elim
    · exact o.elim
  · exact o.elim
end
end DL
namespace DL
open PySem PySem.Spec PyProof.Rows L2
theorem Res.bindS_assoc {α β γ:Type} (r:Res α) (f:α→Sto→Res β) (g:β→Sto→Res γ):(r.bindS f).bindS g=r.bindS fun a S=>(f a S).bindS g:=by
  cases r<;>rfl
/-- a walk,turn by turn -/
def fm (T:D→List D→Sto→Res (List D)):List D→List D→Sto→Res (List D)
  | [],acc,S=>.ok acc S
  | d::ds,acc,S=>(T d acc S).bindS fun acc S=>fm T ds acc S
def nF (T:D→List D→Sto→Res (List D)) (l:Nat):Nat→Nat→List D→Sto→Res (List D)
  | 0,_,_,_=>.stuck
  | n+1,i,acc,S=>match S[l]? with
    | some (.lst xs)=>match xs[i]? with
      | none=>.ok acc S
      | some d=>(T d acc S).bindS fun acc S=>nF T l n (i+1) acc S
    | _=>.stuck
def nH (T:D→List D→Sto→Res (List D)) (l:Nat):Nat→Nat→List D→Sto→Res (List D)
  | 0,_,_,_=>.stuck
  | n+1,i,acc,S=>match S[l]? with
    | some (.lst xs)=>match xs[i]? with
      | none=>.ok acc S
      | some d=>(T (.tup [.int (i:Nat),d]) acc S).bindS fun acc S=>nH T l n (i+1) acc S
    | _=>.stuck
def pF (T:D→List D→Sto→Res (List D)) (it:ItD) (acc:List D) (S:Sto):Res (List D):=match it with
  | .items ds=>fm T ds acc S
  | .live l=>nF T l (dB S l+1) 0 acc S
  | .liveE l=>nH T l (dB S l+1) 0 acc S
section
variable {X:Cx} {J:It} {it:ItD} {T:D→List D→Sto→Res (List D)} {G:V→Hp→(Hp→Prop)→Prop} {N:Hp→Prop} {W:WX} {σ:L2.St} {μ0 μ1:Mu} {H0 H1:Hp} {p:Addr} {Q:V→Hp→Prop}
theorem v8 {S1:Sto} {acc1:List D} {us1:List V} {f:List D→Sto→Res (List D)} (rd:WalkOk X.K X.mg μ1 H1 it J) (hp:p∈μ1.h) (hp1:H1 p=some (.lst us1)) (rs1:RelS X.K X.mg μ1 H1 S1) (ra1:RepAll X.K X.mg μ1 H1 acc1 us1)
    (o:Out X.K X.mg W σ μ0 H0 (RL X.K X.mg) Q ((pF T it acc1 S1).bindS f))
    (hN:∀μ H S acc us,StP p μ1 H1 μ H→RelS X.K X.mg μ H S→H p=some (.lst us)→RepAll X.K X.mg μ H acc us→Out X.K X.mg W σ μ0 H0 (RL X.K X.mg) Q (f acc S)→N H)
    (hG:∀(μ2:Mu) (H2:Hp) (S2:Sto) (d:D) (x:V) (acc:List D) (us:List V) (N2:Hp→Prop) (f2:List D→Sto→Res (List D)),StP p μ1 H1 μ2 H2→RelS X.K X.mg μ2 H2 S2→H2 p=some (.lst us)→RepAll X.K X.mg μ2 H2 acc us→Rep X.K X.mg μ2 H2 d x→Out X.K X.mg W σ μ0 H0 (RL X.K X.mg) Q ((T d acc S2).bindS f2)→
      (∀μ3 H3 S3 acc' us',StP p μ2 H2 μ3 H3→RelS X.K X.mg μ3 H3 S3→H3 p=some (.lst us')→RepAll X.K X.mg μ3 H3 acc' us'→Out X.K X.mg W σ μ0 H0 (RL X.K X.mg) Q (f2 acc' S3)→N2 H3)→G x H2 N2) :
    ∃Wk:Nat→Nat→Hp→Prop,(∃m,Wk 0 m H1)∧∀i m H,Wk i m H→(J.stop i H∧N H)∨(J.go i H∧∃Nx:Hp→Prop,(∀H',Nx H'→∃m',m'<m∧Wk (i+1) m' H')∧∀x H',J.yld i H x H'→G x H' Nx):=by
  have st0:StP p μ1 H1 μ1 H1:=.of .refl
  have npm:∀ {μ2:Mu} {H2:Hp},StP p μ1 H1 μ2 H2→p∈μ2.h:=fun sp=>by rw[sp.hid]; exact hp
  cases it with
  | items ds=>
    have rd:dZ X.K X.mg μ1 H1 ds J:=rd
    refine ⟨fun i n H=>n+i=ds.length∧∃μ S acc us,StP p μ1 H1 μ H∧RelS X.K X.mg μ H S∧H p=some (.lst us)∧RepAll X.K X.mg μ H acc us∧Out X.K X.mg W σ μ0 H0 (RL X.K X.mg) Q ((fm T (ds.drop i) acc S).bindS f),
      ⟨ds.length,rfl,_,S1,_,_,st0,rs1,hp1,ra1,o⟩,?_⟩
    rintro i n H ⟨hn,μ,S,acc,us,sp,rs,hpp,ra,o⟩
    have sb:Stp μ1 H1 μ H:=sp.toStp
    by_cases hi:i<ds.length
    · have ed:ds.drop i=ds[i]::ds.drop (i+1):=List.drop_eq_getElem_cons hi
      rw[ed] at o
      unfold fm at o
      rw[Res.bindS_assoc] at o
      refine .inr ⟨rd.goes i μ H hi sb,fun H=>∃μ S acc us,StP p μ1 H1 μ H∧RelS X.K X.mg μ H S∧H p=some (.lst us)∧RepAll X.K X.mg μ H acc us∧Out X.K X.mg W σ μ0 H0 (RL X.K X.mg) Q ((fm T (ds.drop (i+1)) acc S).bindS f),fun H' w=>⟨n - 1,by omega,by omega,w⟩,fun x H' y=>?_⟩
      obtain ⟨sm,rx⟩:=rd.yields i _ μ H S x H' (List.getElem?_eq_getElem hi) sb rs y
      have sx:Step μ H μ H':=.of_sm sm
      have spx:=sp.trans (StP.of sx)
      exact hG μ H' S _ x acc us _ _ spx (rs.sm sm) (sm _ _ hpp) (RepAll.step sx _ _ ra) rx o fun μ3 H3 S3 acc' us' s3 rs3 hp3 ra3 o3=>⟨μ3,S3,acc',us',spx.trans s3,rs3,hp3,ra3,o3⟩
    · have e:i=ds.length:=by omega
      subst e
      rw[List.drop_length] at o
      exact .inl ⟨rd.stops μ H sb,hN μ H S acc us sp rs hpp ra o⟩
  | live l=>
    obtain ⟨a,ha,rfl⟩:=rd
    refine ⟨fun i n H=>∃μ S acc us,StP p μ1 H1 μ H∧RelS X.K X.mg μ H S∧H p=some (.lst us)∧RepAll X.K X.mg μ H acc us∧Out X.K X.mg W σ μ0 H0 (RL X.K X.mg) Q ((nF T l n i acc S).bindS f),
      ⟨_,_,S1,_,_,st0,rs1,hp1,ra1,o⟩,?_⟩
    rintro i n H ⟨μ,S,acc,us,sp,rs,hpp,ra,o⟩
    have sb:Stp μ1 H1 μ H:=sp.toStp
    cases n with
    | zero=>exact o.elim
    | succ n=>
      unfold nF at o
      cases es:S[l]? with
      | none=>rw[es] at o; exact o.elim
      | some ob=>
        cases ob with
        | lst xs=>
          simp only[es] at o
          obtain ⟨a',h1,vs',h2,h3⟩:=rs.at_ _ _ es
          rw[sb.get ha] at h1; cases h1
          cases hx:xs[i]? with
          | none=>
            simp only[hx] at o
            refine .inl ⟨⟨vs',.of h2,?_⟩,hN μ H S acc us sp rs hpp ra o⟩
            rw[←h3.length]
            exact List.getElem?_eq_none_iff.mp hx
          | some d=>
            simp only[hx] at o
            rw[Res.bindS_assoc] at o
            obtain ⟨v,hv,rv⟩:=h3.get hx
            refine .inr ⟨⟨vs',v,.of h2,hv⟩,fun H=>∃μ S acc us,StP p μ1 H1 μ H∧RelS X.K X.mg μ H S∧H p=some (.lst us)∧RepAll X.K X.mg μ H acc us∧Out X.K X.mg W σ μ0 H0 (RL X.K X.mg) Q ((nF T l n (i+1) acc S).bindS f),fun H' w=>⟨n,Nat.lt_succ_self n,w⟩,fun x H' y=>?_⟩
            obtain ⟨rfl,y⟩:=y
            have q:=y vs' (.of h2)
            rw[hv] at q; cases q
            exact hG μ _ S _ _ acc us _ _ sp rs hpp ra rv o fun μ3 H3 S3 acc' us' s3 rs3 hp3 ra3 o3=>⟨μ3,S3,acc',us',sp.trans s3,rs3,hp3,ra3,o3⟩
        | _=>simp only[es] at o; exact o.elim
  | liveE l=>
    obtain ⟨a,ha,rfl⟩:=rd
    refine ⟨fun i n H=>∃μ S acc us,StP p μ1 H1 μ H∧RelS X.K X.mg μ H S∧H p=some (.lst us)∧RepAll X.K X.mg μ H acc us∧Out X.K X.mg W σ μ0 H0 (RL X.K X.mg) Q ((nH T l n i acc S).bindS f),
      ⟨_,_,S1,_,_,st0,rs1,hp1,ra1,o⟩,?_⟩
    rintro i n H ⟨μ,S,acc,us,sp,rs,hpp,ra,o⟩
    have sb:Stp μ1 H1 μ H:=sp.toStp
    cases n with
    | zero=>exact o.elim
    | succ n=>
      unfold nH at o
      cases es:S[l]? with
      | none=>rw[es] at o; exact o.elim
      | some ob=>
        cases ob with
        | lst xs=>
          simp only[es] at o
          obtain ⟨a',h1,vs',h2,h3⟩:=rs.at_ _ _ es
          rw[sb.get ha] at h1; cases h1
          cases hx:xs[i]? with
          | none=>
            simp only[hx] at o
            refine .inl ⟨⟨vs',.of h2,?_⟩,hN μ H S acc us sp rs hpp ra o⟩
            rw[←h3.length]
            exact List.getElem?_eq_none_iff.mp hx
          | some d=>
            simp only[hx] at o
            rw[Res.bindS_assoc] at o
            obtain ⟨v,hv,rv⟩:=h3.get hx
            refine .inr ⟨⟨vs',v,.of h2,hv⟩,fun H=>∃μ S acc us,StP p μ1 H1 μ H∧RelS X.K X.mg μ H S∧H p=some (.lst us)∧RepAll X.K X.mg μ H acc us∧Out X.K X.mg W σ μ0 H0 (RL X.K X.mg) Q ((nH T l n (i+1) acc S).bindS f),fun H' w=>⟨n,Nat.lt_succ_self n,w⟩,fun x H' y=>?_⟩
            obtain ⟨Tz,z,rfl,hT,rfl,y⟩:=y
            have q:=y vs' (.of h2)
            rw[hv] at q; cases q
            have sm:Sm H (upd H Tz (.tup [.int (i:Int),v])):=.upd hT
            have sx:Step μ H μ (upd H Tz (.tup [.int (i:Int),v])):=.of_sm sm
            have rx:Rep X.K X.mg μ (upd H Tz (.tup [.int (i:Int),v])) (.tup [.int (i:Nat),d]) (.ref Tz):=bQ rs hT (.cons (az _) (.cons rv .nil))
            have spx:=sp.trans (StP.of sx)
            exact hG μ _ S _ _ acc us _ _ spx (rs.sm sm) (sm _ _ hpp) (RepAll.step sx _ _ ra) rx o fun μ3 H3 S3 acc' us' s3 rs3 hp3 ra3 o3=>⟨μ3,S3,acc',us',spx.trans s3,rs3,hp3,ra3,o3⟩
        | _=>simp only[es] at o; exact o.elim
end
/-- one turn of the first clause -/
def lg (g:MG) (tc:MT) (mi1:MI) (g1:MG) (tc1:MT) (m:ME) (vs1:List Nat) (w:En) (d:D) (acc:List D) (S:Sto):Res (List D):=match g d w S with
  | none=>.stuck
  | some p=>(tc p.1 p.2).bindS fun c S2=>if c=true then (mi1 p.1 S2).bindS fun it S3=>pF (eA g1 tc1 m (aU p.1 vs1)) it acc S3 else .ok acc S2
def qS (mi:MI) (g:MG) (tc:MT) (mi1:MI) (g1:MG) (tc1:MT) (m:ME) (vs vs1:List Nat):MA:=fun env S=>(mi env S).bind fun it S=>pF (lg g tc mi1 g1 tc1 m vs1 (aU env vs)) it [] S
def nJ (mi:MI) (g:MG) (tc:MT) (mi1:MI) (g1:MG) (tc1:MT) (m:ME) (vs vs1:List Nat):ME:=fun env S=>(qS mi g tc mi1 g1 tc1 m vs vs1 env S).bind fun ds S=>.ok (.lst ds) S
theorem Res.bindS_noexc {α β:Type} {r:Res α} {f:α→Sto→Res β} (h:∀a S e S',f a S≠.exc e S'):∀e S,r.bindS f≠.exc e S:=fun e S=>by
  cases r with
  | ok a S1=>exact h a S1 e S
  | exc _ _=>exact fun z=>nomatch z
  | stuck=>exact fun z=>nomatch z
theorem li {T:D→List D→Sto→Res (List D)}:∀ds acc S e S',fm T ds acc S≠.exc e S'
  | [],_,_,_,_=>fun z=>nomatch z
  | d::ds,acc,S,e,S'=>Res.bindS_noexc (fun a S e S'=>li ds a S e S') e S'
theorem lj {T:D→List D→Sto→Res (List D)} {l:Nat}:∀n i acc S e S',nF T l n i acc S≠.exc e S'
  | 0,_,_,_,_,_=>fun z=>nomatch z
  | n+1,i,acc,S,e,S'=>by
    unfold nF
    split
    · split
      · exact fun z=>nomatch z
      · exact Res.bindS_noexc (fun a S e S'=>lj n _ a S e S') e S'
    · exact fun z=>nomatch z
theorem ll {T:D→List D→Sto→Res (List D)} {l:Nat}:∀n i acc S e S',nH T l n i acc S≠.exc e S'
  | 0,_,_,_,_,_=>fun z=>nomatch z
  | n+1,i,acc,S,e,S'=>by
    unfold nH
    split
    · split
      · exact fun z=>nomatch z
      · exact Res.bindS_noexc (fun a S e S'=>ll n _ a S e S') e S'
    · exact fun z=>nomatch z
theorem sD {T:D→List D→Sto→Res (List D)} {it:ItD} {acc:List D} {S:Sto} (e:_) (S':Sto):pF T it acc S≠.exc e S':=by
  cases it with
  | items ds=>exact li ds acc S e S'
  | live l=>exact lj _ _ acc S e S'
  | liveE l=>exact ll _ _ acc S e S'
theorem WalkOk.stp {K:PySem.W.Frag} {mg:Str→Option Value} {μ μ':Mu} {H H':Hp} {it:ItD} {J:It} (s:Stp μ H μ' H') (h:WalkOk K mg μ H it J):WalkOk K mg μ' H' it J:=by
  cases it with
  | items ds=>
    have h:dZ K mg μ H ds J:=h
    exact (⟨fun i μ2 H2 hi t=>h.goes i μ2 H2 hi (s.trans t),fun μ2 H2 t=>h.stops μ2 H2 (s.trans t),fun i d μ2 H2 S x H3 hd t rs y=>h.yields i d μ2 H2 S x H3 hd (s.trans t) rs y⟩:dZ K mg μ' H' ds J)
  | live l=>
    obtain ⟨a,ha,e⟩:=h
    exact ⟨a,s.get ha,e⟩
  | liveE l=>
    obtain ⟨a,ha,e⟩:=h
    exact ⟨a,s.get ha,e⟩
section
variable {X:Cx} {e tg iter tg1 iter1 elt:Expr} {pos:Pos} {g g1:MG} {m:ME} {mi mi1:MI} {tc tc1:MT} {vs vs1:List Nat}
/-- what the second loop asks -/
def Loop2 (X:Cx) (g1:MG) (tc1:MT) (m:ME) (vs1:List Nat) (p:Addr) (σ2:L2.St) (J1:It) (H4:Hp) (N:Hp→Prop):Prop:=
  ∃W1:Nat→Nat→Hp→Prop,(∃m,W1 0 m H4)∧∀j k H,W1 j k H→
      (J1.stop j H∧N H)∨(J1.go j H∧∃Nx1:Hp→Prop,(∀H',Nx1 H'→∃k',k'<k∧W1 (j+1) k' H')∧∀x H',J1.yld j H x H'→tGc X vs1 g1 x (L2.wipe σ2 vs1) H' fun σ3 H5=>L2.wipe σ3 vs1=L2.wipe σ2 vs1∧tT X W0 tc1 σ3 H5 fun b H6=>
        if b=true then tE X W0 m σ3 H6 fun y H7=>∃acc,H7 p=some (.lst acc)∧acc.length<sizeLine∧Nx1 (upd H7 p (.lst (acc++[y]))) else Nx1 H6)
theorem yN {W:WX} {σ:L2.St} {w:En} {p:Addr} {Q:V→Hp→Prop} {μ1 μ2:Mu} {H1 H2:Hp} {S2:Sto} {d:D} {x:V} {acc:List D} {us:List V} {N:Hp→Prop} {f:List D→Sto→Res (List D)}
    (re:RelE X.K X.mg μ2 H2 w (L2.wipe σ vs)) (rs:RelS X.K X.mg μ2 H2 S2) (hp:H2 p=some (.lst us)) (np:p∈μ2.h) (ra:RepAll X.K X.mg μ2 H2 acc us) (rx:Rep X.K X.mg μ2 H2 d x)
    (o:Out X.K X.mg W σ μ1 H1 (RL X.K X.mg) Q ((lg g tc mi1 g1 tc1 m vs1 w d acc S2).bindS f))
    (hN:∀μ3 H3 S3 acc' us',StP p μ2 H2 μ3 H3→RelS X.K X.mg μ3 H3 S3→H3 p=some (.lst us')→RepAll X.K X.mg μ3 H3 acc' us'→Out X.K X.mg W σ μ1 H1 (RL X.K X.mg) Q (f acc' S3)→N H3) :
    tGc X vs g x (L2.wipe σ vs) H2 fun σ2 H3=>L2.wipe σ2 vs=L2.wipe σ vs∧tT X W0 tc σ2 H3 fun b H4=>if b=true then tI X W0 mi1 σ2 H4 fun J1 H5=>Loop2 X g1 tc1 m vs1 p σ2 J1 H5 N else N H4:=by
  refine ⟨w,S2,μ2,d,⟨re,rs⟩,rx,?_⟩
  unfold lg at o
  cases hg:g d w S2 with
  | none=>simp only[hg,Res.bindS] at o; exact o.elim
  | some q=>
    obtain ⟨e,Se⟩:=q
    simp only[hg] at o
    intro μ3 H3 σ3 st3 re3 rs3 hw
    refine ⟨hw.trans (fU vs vs σ fun i hi=>hi),e,Se,μ3,⟨re3,rs3⟩,?_⟩
    have hp3:H3 p=some (.lst us):=st3.hk _ _ np hp
    have np3:p∈μ3.h:=by rw[st3.hid]; exact np
    have ra3:=RepAll.step st3 _ _ ra
    cases htc:tc e Se with
    | exc a b=>simp only[htc,Res.bindS] at o; exact o.elim
    | stuck=>simp only[htc,Res.bindS] at o; exact o.elim
    | ok c S4=>
      simp only[htc,Res.bindS] at o
      intro μ4 H4 b st4 rs4 hb
      subst hb
      have hp4:H4 p=some (.lst us):=st4.hk _ _ np3 hp3
      have np4:p∈μ4.h:=by rw[st4.hid]; exact np3
      have ra4:=RepAll.step st4 _ _ ra3
      cases b with
      | false=>
        simp only[Bool.false_eq_true,if_false] at o ⊢
        exact hN μ4 H4 S4 acc us (.of (st3.trans st4)) rs4 hp4 ra4 o
      | true=>
        simp only[if_true] at o ⊢
        refine ⟨e,S4,μ4,⟨re3.step st4,rs4⟩,?_⟩
        cases hm:mi1 e S4 with
        | exc a b=>simp only[hm,Res.bindS] at o; exact o.elim
        | stuck=>simp only[hm,Res.bindS] at o; exact o.elim
        | ok it S5=>
          simp only[hm] at o
          intro μ5 H5 J1 st5 rs5 rd5
          have hp5:H5 p=some (.lst us):=st5.hk _ _ np4 hp4
          have np5:p∈μ5.h:=by rw[st5.hid]; exact np4
          have ra5:=RepAll.step st5 _ _ ra4
          have re5:RelE X.K X.mg μ5 H5 (aU e vs1) (L2.wipe σ3 vs1):=((re3.step st4).step st5).wipe vs1
          have s05:StP p μ2 H2 μ5 H5:=.of ((st3.trans st4).trans st5)
          refine v8 (G:=fun x H N=>tGc X vs1 g1 x (L2.wipe σ3 vs1) H fun σ4 H5=>L2.wipe σ4 vs1=L2.wipe σ3 vs1∧tT X W0 tc1 σ4 H5 fun b H6=>if b=true then tE X W0 m σ4 H6 fun y H7=>∃acc,H7 p=some (.lst acc)∧acc.length<sizeLine∧N (upd H7 p (.lst (acc++[y]))) else N H6) (N:=N) (f:=f) rd5 np5 hp5 rs5 ra5 o (fun μ H S acc us sp rs hpp ra o=>hN μ H S acc us (s05.trans sp) rs hpp ra o) fun μ6 H6 S6 d6 x6 acc6 us6 N6 f6 sp rs6 hp6 ra6 rx6 o6 hN6=>?_
          have np6:p∈μ6.h:=by rw[sp.hid]; exact np5
          exact mE (re5.stp sp.toStp) rs6 hp6 np6 ra6 rx6 o6 hN6
theorem z6 {own:List (Str × Nat)} {σ:L2.St} {H:Hp} {Q:VK} {W:WX} (h:tM X (RL X.K X.mg) W (qS mi g tc mi1 g1 tc1 m (own.map (·.2)) vs1) σ H Q) :
    tLc2 (tI X W mi) (tGc X (own.map (·.2)) g) (tT X W0 tc) (tI X W0 mi1) (tGc X vs1 g1) (tT X W0 tc1) (tE X W0 m) (own.map (·.2)) vs1 σ H Q:=by
  obtain ⟨env,S,μ,rl,o⟩:=h
  generalize own.map (·.2)=vs at *
  refine ⟨env,S,μ,rl,(Out.bind o).mono fun J H1 ⟨μ1,S1,it,st,rs,rd,o1⟩ p hp=>?_⟩
  have rw1:RelE X.K X.mg μ1 H1 (aU env vs) (L2.wipe σ vs):=(rl.env.step st).wipe vs
  have sh:Stp μ1 H1 (μ1.hide p) (upd H1 p (.lst [])):=.new_hid hp
  have np0:p∈(μ1.hide p).h:=List.mem_cons_self
  have rd0:WalkOk X.K X.mg (μ1.hide p) (upd H1 p (.lst [])) it J:=WalkOk.stp sh rd
  have o1:Out X.K X.mg W σ μ1 H1 (RL X.K X.mg) Q ((pF (lg g tc mi1 g1 tc1 m vs1 (aU env vs)) it [] S1).bindS fun acc S=>.ok acc S):=by
    have e:∀r:Res (List D),Out X.K X.mg W σ μ1 H1 (RL X.K X.mg) Q r→(∀e S,r≠.exc e S)→Out X.K X.mg W σ μ1 H1 (RL X.K X.mg) Q (r.bindS fun acc S=>.ok acc S):=fun r o n=>by
      cases r with
      | ok a S=>exact o
      | exc e S=>exact (n e S rfl).elim
      | stuck=>exact o
    exact e _ o1 fun e S=>sD e S
  refine v8 (T:=lg g tc mi1 g1 tc1 m vs1 (aU env vs)) (N:=fun H=>Q (.ref p) H) (f:=fun acc S=>.ok acc S) rd0 np0 upd_same (rs.hide hp) .nil o1 (fun μ2 H2 S2 acc us sp rs2 hp2 ra o=>?_) fun μ6 H6 S6 d6 x6 acc6 us6 N6 f6 sp rs6 hp6 ra6 rx6 o6 hN6=>yN ((rw1.stp sh).stp sp.toStp) rs6 hp6 (by rw[sp.hid]; exact np0) ra6 rx6 o6 hN6
  have sub:∀a∈μ1.h,a∈μ2.h:=fun a ha=>by rw[sp.hid]; exact List.mem_cons_of_mem _ ha
  have su:Stp μ2 H2 ⟨μ2.l,μ1.h⟩ H2:=.unhide sub
  have np:p∉(⟨μ2.l,μ1.h⟩:Mu):=fun z=>z.elim (fun z=>rs2.dis p z (by rw[sp.hid]; exact List.mem_cons_self)) (rs.notinH hp)
  exact o ⟨μ2.l,μ1.h⟩ H2 (.ref p) ⟨(sh.trans sp.toStp).trans su,rfl,fun a u ha e nt=>sp.hk a u (ne_of_none e hp) (List.mem_cons_of_mem _ ha) (by rw[upd_ne (ne_of_none e hp)]; exact e) nt⟩ (rs2.unhide sub)
      ⟨p,us,rfl,hp2,np,RepAll.stp su _ _ ra⟩
theorem ul {σ:L2.St} {H:Hp} {Q:VK} {W:WX} (h:tE X W (nJ mi g tc mi1 g1 tc1 m vs vs1) σ H Q):tM X (RL X.K X.mg) W (qS mi g tc mi1 g1 tc1 m vs vs1) σ H Q:=by
  obtain ⟨env,S,μ,rl,o⟩:=h
  refine ⟨env,S,μ,rl,(Out.bind (R:=RL X.K X.mg) o).mono fun v H1 ⟨μ1,S1,ds,st,rs,r,o1⟩=>o1 μ1 H1 v .refl rs (xm r)⟩
section
variable {scope:Scope} {own:List (Str × Nat)} {W:WX} {ifs ifs1:List Expr}
theorem sE {i:Nat} {y:Str} {py spos:Pos} (hc:X.calm=true) (hN:X.N.Nodup) (hy:X.N[i]?=some y) (hyl:X.env.scope.names.lookup y=some .local)
    (hsw:swapsWith (.ListComp elt [⟨tg,iter,ifs,0⟩,⟨tg1,iter1,ifs1,0⟩] scope pos) (some (.Name y py)) spos.line X.env=pure true) (hi:PI X tg iter (tI X W mi)) (ok:BlkOk X.N X.env.scope scope own) (hv:∀i∈vs1,i∈own.map (·.2))
    (hg:∀(s:Shared) (H:Hp) (C:Addr) (cl:List (Str × Addr)) (fp:List Addr),PG (X.blk s H scope (compEnvC scope cl C X.env) fp) tg (tGc (X.blk s H scope (compEnvC scope cl C X.env) fp) (own.map (·.2)) g))
    (ht:∀(s:Shared) (H:Hp) (C:Addr) (cl:List (Str × Addr)) (fp:List Addr),qK (X.blk s H scope (compEnvC scope cl C X.env) fp) ifs tc)
    (hi1:∀(s:Shared) (H:Hp) (C:Addr) (cl:List (Str × Addr)) (fp:List Addr),PI (X.blk s H scope (compEnvC scope cl C X.env) fp) tg1 iter1 (tI (X.blk s H scope (compEnvC scope cl C X.env) fp) W0 mi1))
    (hg1:∀(s:Shared) (H:Hp) (C:Addr) (cl:List (Str × Addr)) (fp:List Addr),PG (X.blk s H scope (compEnvC scope cl C X.env) fp) tg1 (tGc (X.blk s H scope (compEnvC scope cl C X.env) fp) vs1 g1))
    (ht1:∀(s:Shared) (H:Hp) (C:Addr) (cl:List (Str × Addr)) (fp:List Addr),qK (X.blk s H scope (compEnvC scope cl C X.env) fp) ifs1 tc1)
    (he:∀(s:Shared) (H:Hp) (C:Addr) (cl:List (Str × Addr)) (fp:List Addr),PE (X.blk s H scope (compEnvC scope cl C X.env) fp) elt (tE (X.blk s H scope (compEnvC scope cl C X.env) fp) W0 m)) (hs:∀x,foldedSetIterable iter X.env x=pure x:=by intro _; rfl) (hs1:∀env x,foldedSetIterable iter1 env x=pure x:=by intro _ _; rfl) :
    PS X (.Assign [.Name y py] (.ListComp elt [⟨tg,iter,ifs,0⟩,⟨tg1,iter1,ifs1,0⟩] scope pos) spos) (tS X W (bF i (nJ mi g tc mi1 g1 tc1 m (own.map (·.2)) vs1))):=
  fZ (ps_setLc2 (g:=tGc X (own.map Prod.snd) g) (tt:=tT X W0 tc) (te:=tE X W0 m) (wi1:=tI X W0 mi1) (g1:=tGc X vs1 g1) (tt1:=tT X W0 tc1) hc hN hy hyl hsw hi ok hv hg ht hi1 hg1 ht1 he hs hs1) fun D σ H ⟨env,S,μ,rl,o⟩=>z6 (ul ⟨env,S,μ,rl,(OutS.rs rl.env o).mono fun x H1 ⟨μ1,S1,d,st,rs,r,o1⟩=>o1 μ1 H1 _ .refl ((rl.env.step st).set r) rs⟩)
end
end
end DL
namespace DL
open PySem PySem.Spec PyProof.Rows L2 LamX
def isD (S:Sto) (d:D):Bool:=match d with
  | .loc l=>(dE S[l]?).isSome
  | _=>false
def yO (S:Sto) (d k z:D):Option D:=match d with
  | .loc l=>match dE S[l]? with
    | some (t,kvs)=>if cg t k=true then some ((dD t kvs k).getD z) else none
    | none=>none
  | _=>none
def eGet (md mk mz:ME):ME:=fun env S=>(md env S).bind fun d S=>if isD S d=true then (mk env S).bind fun k S=>(mz env S).bind fun z S=>ofO S (yO S d k z) else .stuck
def eSetd (md mk mz:ME):ME:=fun env S=>(md env S).bind fun d S=>if isD S d=true then (mk env S).bind fun k S=>(mz env S).bind fun z S=>match d with
  | .loc l=>match S[l]? with
    | some (.dct false kvs)=>if cg false k=true∧kvs.length<1000000 then (match dD false kvs k with
      | some v=>.ok v S
      | none=>.ok z (S.set l (.dct false (g5 false kvs k z)))) else .stuck
    | _=>.stuck
  | _=>.stuck else .stuck
end DL
namespace DL
open PySem PySem.Spec PyProof.Rows L2 LamX
mutual
def noL:PyData→Bool
  | .list _=>false
  | .dict _=>false
  | .tuple xs=>noLs xs
  | _=>true
def noLs:List PyData→Bool
  | []=>true
  | x::xs=>noL x&&noLs xs
end
mutual
theorem pG {h:Heap}:∀ {v:Value} {d:PyData} {as:List Addr},Reads h v d as→noL d=true→as=[]
  | _,_,_,.none,_=>rfl
  | _,_,_,.bool _,_=>rfl
  | _,_,_,.int _ _,_=>rfl
  | _,_,_,.str _ _,_=>rfl
  | _,_,_,.list _ _ _ _,n=>by unfold noL at n; cases n
  | _,_,_,.tuple _ _ _ r,n=>by
    unfold noL at n
    exact readsAll_nil r n
  | _,_,_,.dict _ _ _ _ _,n=>by unfold noL at n; cases n
theorem readsAll_nil {h:Heap}:∀ {v:List Value} {d:List PyData} {as:List Addr},ReadsAll h v d as→noLs d=true→as=[]
  | _,_,_,.nil,_=>rfl
  | _,_,_,.cons r rs,n=>by
    unfold noLs at n
    rw[Bool.and_eq_true] at n
    rw[pG r n.1,readsAll_nil rs n.2]; rfl
end
def yP (n:Nat) (d:D) (m:MF) (r:MA):ME:=fun env S=>(r env S).bind fun ds S=>chk n m (ds++[d]) S
def yQ (n k:Nat) (m:MF) (r rk:MA):ME:=fun env S=>(r env S).bind fun ds S=>(rk env S).bind fun zs S=>if ds.length=k then chk n m (ds++zs) S else .stuck
def sPar3 (i j l:Nat) (r:MA):MS:=fun env S=>(r env S).rs env fun ds S=>match ds with
  | [a,b,c]=>.next (((env.set i (some a)).set j (some b)).set l (some c)) S
  | _=>.stuck
/-- xs+ys,a list that is changed later -/
def eCatM (ma mb:ME):ME:=fun env S=>(ma env S).bind fun a S=>(mb env S).bind fun b S=>match view0 S a,view0 S b with
  | .lst xs,.lst ys=>if xs.length+ys.length≤1000000 then .ok (.loc S.length) (S++[.lst (xs++ys)]) else .stuck
  | _,_=>.stuck
end DL
namespace DL
open PySem PySem.Spec PyProof.Rows L2 LamX
/-- a lambda's object,with defaults -/
abbrev fq (name qual:Str) (params:Arguments) (body:Expr) (scope:Scope) (cl:List (Str × Addr)) (pm cdv ct dV:Value):Obj:=
  { cls:=.type "function",data:=.func { PySem.W.kla_fn name qual params body scope cl pm cdv ct with defaults:=dV } }
section
variable {M:Model} {A:Around} {E:Value→Shared→Prop} {s:Shared} {name qual:Str} {params:Arguments} {body:Expr} {scope:Scope} {env:Env} {c P:Addr} {ps:Array Value} {pos:Pos} {firstLine:Nat} {mg:Str→Option Value}
  {clos:List (Str × Addr)} {Q:Value→Shared→Prop} {dV:Value}
/-- behind the closure's tuple -/
def yR (name qual:Str) (params:Arguments) (body:Expr) (scope:Scope) (env:Env) (clos:List (Str × Addr)) (dV:Value) (pos:Pos) (firstLine:Nat) (ctv:Value):Sem Value:=do
  let code ←functionCode env pos firstLine name qual params scope (.expr body)
  let bi ←builtinsFor mainGlobals env.builtins
  let pm ←nsGet mainGlobals "__name__"
  let doc ← (pure Value.none:Sem Value)
  newObj (.type "function") (.func { name:=name,qualname:=qual,params:=params,body:=.expr body,scope:=scope,globals:=mainGlobals,closure:=clos,defaults:=dV,kwdefaults:=.none,doc:=doc,pyModule:=pm.getD .none,annotations:=none,code:=code,closureTuple:=ctv,builtins:=bi })
/-- the tail of the making,the code object new -/
theorem yS (hcl:closureFor scope env=pure clos) (hge0:env.globals=mainGlobals) (hg:s.heap.Ns mainGlobals mg) (hcode:env.code=.ref c) (C:PySem.W.CodeHd s.heap c P) (hP:s.heap.get? P=some (PySem.W.tabObj ps)) (ht:TriplesOk ps.toList)
    (hnf:codeAmong pos ps.toList=none) (hgP:mainGlobals≠P) (hb:s.heap.BuiltinsAt mg P)
    (h:∀c' ctv h' tk,Heap.ExtBut P s.heap h'→s.heap.objs.size≤c'→c'<h'.objs.size→h'.CodeRec (.ref c') qual→h'.get? P=some (PySem.W.tabObj (ps++#[rawInt pos.line,rawInt pos.col,.ref c']))→
      Q (.ref h'.objs.size) { s with heap:=h'.push (fq name qual params body scope clos ((mg "__name__").getD .none) (.ref c') ctv dV),toks:=tk }) :
    wpAny M A (makeTail name qual params (.expr body) scope env dV .none none pos firstLine) Q E s:=by
  obtain ⟨bm,ob,e1,e2,_,e4,e5,e6,e7,e8⟩:=hb
  unfold makeTail
  rw[hcl,hge0]
  refine wpAny_bind (wpAny_pure ?_)
  have go:∀(ctv:Value) (h0:Heap),(∀b o,s.heap.get? b=some o→h0.get? b=some o)→s.heap.objs.size≤h0.objs.size→wpAny M A (yR name qual params body scope env clos dV pos firstLine ctv) Q E { s with heap:=h0 }:=by
    intro ctv h0 k0 sz0
    have hgP':h0.get? P=some (PySem.W.tabObj ps):=k0 _ _ hP
    refine wpAny_bind (wpAny_functionCodeX hcode ((C.keeps k0).code hgP' ht) ((C.keeps k0).tab hgP') hnf fun c' h' tk hx hge hlt _ hrec htb _=>?_)
    have hg':=(hg.keeps k0).extBut hx hgP
    have hx':Heap.ExtBut P s.heap h':=fun b o hb' e=>hx b o hb' (k0 b o e)
    refine wpAny_bind (wpAny_builtinsFor hg' e1 e2 (hx' _ _ e4 e5) e6 e7 e8 ?_)
    refine wpAny_bind (wpAny_nsGet hg' ?_)
    refine wpAny_bind (wpAny_pure ?_)
    exact wpAny_newObj_type (h c' ctv h' tk hx' (Nat.le_trans sz0 hge) hlt hrec htb.2) (by size_fits)
  cases clos with
  | nil=>
    simp only[List.isEmpty_nil,if_true]
    exact wpAny_bind (wpAny_pure (go .none s.heap (fun _ _ e=>e) (Nat.le_refl _)))
  | cons q r=>
    simp only[List.isEmpty_cons,Bool.false_eq_true,if_false]
    exact wpAny_bind (wpAny_newTextTuple (go _ _ (fun b o e=>Heap.get?_push_of_some _ e) (by rw[Heap.size_push]; omega)))
/-- .. the code object found -/
theorem mk_hit {cv:Value} (hcl:closureFor scope env=pure clos) (hge0:env.globals=mainGlobals) (hg:s.heap.Ns mainGlobals mg) (hcode:env.code=.ref c) (C:PySem.W.CodeHd s.heap c P) (hP:s.heap.get? P=some (PySem.W.tabObj ps)) (ht:TriplesOk ps.toList)
    (hf:codeAmong pos ps.toList=some cv) (hb:s.heap.BuiltinsAt mg P)
    (h:∀(ctv:Value) (h':Heap) (tk:Tok),(∀b o,s.heap.get? b=some o→h'.get? b=some o)→s.heap.objs.size≤h'.objs.size→
      Q (.ref h'.objs.size) { s with heap:=h'.push (fq name qual params body scope clos ((mg "__name__").getD .none) cv ctv dV),toks:=tk }) :
    wpAny M A (makeTail name qual params (.expr body) scope env dV .none none pos firstLine) Q E s:=by
  obtain ⟨bm,ob,e1,e2,_,e4,e5,e6,e7,e8⟩:=hb
  unfold makeTail
  rw[hcl,hge0]
  refine wpAny_bind (wpAny_pure ?_)
  have go:∀(ctv:Value) (h0:Heap),(∀b o,s.heap.get? b=some o→h0.get? b=some o)→s.heap.objs.size≤h0.objs.size→wpAny M A (yR name qual params body scope env clos dV pos firstLine ctv) Q E { s with heap:=h0 }:=by
    intro ctv h0 k0 sz0
    refine wpAny_bind (wpAny_functionCode_hit hcode ((C.keeps k0).code (k0 _ _ hP) ht) hf ?_)
    refine wpAny_bind (wpAny_builtinsFor (hg.keeps k0) e1 e2 (k0 _ _ e5) e6 e7 e8 ?_)
    refine wpAny_bind (wpAny_nsGet (hg.keeps k0) ?_)
    refine wpAny_bind (wpAny_pure ?_)
    exact wpAny_newObj_type (h ctv h0 s.toks k0 sz0) (by size_fits)
  cases clos with
  | nil=>
    simp only[List.isEmpty_nil,if_true]
    exact wpAny_bind (wpAny_pure (go .none s.heap (fun _ _ e=>e) (Nat.le_refl _)))
  | cons q r=>
    simp only[List.isEmpty_cons,Bool.false_eq_true,if_false]
    exact wpAny_bind (wpAny_newTextTuple (go _ _ (fun b o e=>Heap.get?_push_of_some _ e) (by rw[Heap.size_push]; omega)))
end
end DL
namespace DL
open PySem PySem.Spec PyProof.Rows L2 LamX
section
variable {M:Model} {A:Around} {E:Value→Shared→Prop} {s:Shared}
/-- a call without arguments of what has one parameter with a default -/
theorem wm {fd:FuncData} {a:Arg} {ds:List Expr} {T:Addr} {o:Obj} {u:Value} {n:Nat} {Q:List (Str × Value)→Shared→Prop} (hp:fd.params=⟨[],[a],none,[],[],none,ds⟩) (hT:fd.defaults=.ref T) (ho:s.heap.get? T=some o) (hd:o.data=.seq #[u] n) (h:Q [(a.arg,u)] s) :
    wpAny M A (bindArgs fd ⟨[],[]⟩) Q E s:=by
  unfold bindArgs
  rw[hp,hT]
  simp only[List.map_nil,List.map_cons,List.nil_append,List.length_cons,List.length_nil,List.zip_nil_right,List.forIn_nil,pure_bind]
  refine wpAny_bind (wpAny_seqItems ho hd ?_)
  simp
  exact wpAny_pure h
end
end DL
namespace DL
open PySem PySem.Spec PyProof.Rows L2 LamX
/-- what a lambda of X without parameters is; with one that has a default -/
def v9 (X:Cx) (params:Arguments) (body:Expr) (scope:Scope):Value→Addr→Value→Value→Obj:=fun pm c' ctv _=>fq "<lambda>" (X.env.qual++"<lambda>") params body scope (cloFrom X.env.cells scope.names []) pm (.ref c') ctv .none
def wA (X:Cx) (params:Arguments) (body:Expr) (scope:Scope):Value→Addr→Value→Value→Obj:=fun pm c' ctv dv=>fq "<lambda>" (X.env.qual++"<lambda>") params body scope (cloFrom X.env.cells scope.names []) pm (.ref c') ctv dv
section
variable {X:Cx} {pins:List (Addr × Obj)} {σ:L2.St} {H:Hp} {s:Shared}
/-- the function object is laid,known from now on -/
theorem sF {T:List (Addr × Str)} {c P:Addr} {params:Arguments} {body:Expr} {scope:Scope} {pos:Pos} {dV:Value} {E:Value→Shared→Prop} {Q:Value→Shared→Prop} (I:Inv X pins σ H s) (TB:TabB X.base X.mg c P) (hcode:X.env.code=.ref c)
    (hm:(P,X.env.qual++"<lambda>")∈T) (hu:∀p∈T,p.1=P→p.2=X.env.qual++"<lambda>") (hT:Tabs T H) (hfree:∀y∈scope.names,y.2=.free→∃c,X.env.cells.lookup y.1=some c)
    (h:∀(f c':Addr) (pm ctv:Value) (H1:Hp) (s':Shared),Inv X pins σ H1 s'→ExtN H H1→Tabs T H1→H f=none→H1 f=some (p0 f (fq "<lambda>" (X.env.qual++"<lambda>") params body scope (cloFrom X.env.cells scope.names []) pm (.ref c') ctv dV))→
      (H c'=none∨∃q,H c'=some (CodeO c' q))→H1 c'=some (CodeO c' (X.env.qual++"<lambda>"))→Q (.ref f) s') :
    wpAny (model X.prog X.w) X.A (makeTail "<lambda>" (X.env.qual++"<lambda>") params (.expr body) scope X.env dV .none none pos pos.line) Q E s:=by
  obtain ⟨ps,hP,ht,ha⟩:=hT _ hm
  have bP:s.heap.BuiltinsAt X.mg P:=TB.bm.keeps I.bk
  have hP':s.heap.get? P=some { cls:=.none,data:=.fields ps }:=I.hok P _ hP
  have lay:∀(c':Addr) (ctv:Value) (h':Heap) (tk:Nat) (H1:Hp),Inv X pins σ H1 { s with heap:=h',toks:=tk }→ExtN H H1→Tabs T H1→s.heap.objs.size≤h'.objs.size→(H c'=none∨∃q,H c'=some (CodeO c' q))→H1 c'=some (CodeO c' (X.env.qual++"<lambda>"))→
      Q (.ref h'.objs.size) { s with heap:=h'.push (fq "<lambda>" (X.env.qual++"<lambda>") params body scope (cloFrom X.env.cells scope.names []) ((X.mg "__name__").getD .none) (.ref c') ctv dV),toks:=tk }:=by
    intro c' ctv h' tk H1 I1 eN T1 hsz hc hco
    have hn:H1 h'.objs.size=none:=I1.hok.fresh (Nat.le_refl _)
    have I2:=I1.laid (t':=tk) (a:=h'.objs.size) (o:=p0 h'.objs.size (fq "<lambda>" (X.env.qual++"<lambda>") params body scope (cloFrom X.env.cells scope.names []) ((X.mg "__name__").getD .none) (.ref c') ctv dV))
      (h':=h'.push (fq "<lambda>" (X.env.qual++"<lambda>") params body scope (cloFrom X.env.cells scope.names []) ((X.mg "__name__").getD .none) (.ref c') ctv dV)) (fun b u e=>Heap.get?_push_of_some _ e) (Nat.le_refl _)
      (by
        have e:(h'.push (fq "<lambda>" (X.env.qual++"<lambda>") params body scope (cloFrom X.env.cells scope.names []) ((X.mg "__name__").getD .none) (.ref c') ctv dV)).get? h'.objs.size=some (fq "<lambda>" (X.env.qual++"<lambda>") params body scope (cloFrom X.env.cells scope.names []) ((X.mg "__name__").getD .none) (.ref c') ctv dV):=Heap.get?_push_size _ rfl
        exact ⟨e,⟨_,e⟩,fun h1 h2 p k=>k _ p⟩)
    have up:∀b o,H1 b=some o→upd H1 h'.objs.size (p0 h'.objs.size (fq "<lambda>" (X.env.qual++"<lambda>") params body scope (cloFrom X.env.cells scope.names []) ((X.mg "__name__").getD .none) (.ref c') ctv dV)) b=some o:=fun b o e=>by rw[upd_ne (ne_of_none e hn)]; exact e
    exact h _ c' _ ctv _ _ I2 (eN.trans (ExtN.of up)) (T1.ext up) (I.hok.fresh hsz) upd_same hc (up _ _ hco)
  cases hc:codeAmong pos ps.toList with
  | none=>
    refine yS (mg:=X.mg) (c:=c) (P:=P) (ps:=ps) (closure_ok hfree) I.ok.glob (I.mod.glob.keeps I.bk) hcode (TB.code.keeps I.bk) hP' ht hc TB.gP bP fun c' ctv h' tk hx hge hlt hrec htb=>?_
    obtain ⟨c2,oc,vs,t,e2,hoc,hd,hv⟩:=hrec
    cases e2
    have nC:H c'=none:=I.hok.fresh hge
    have I1:=inv_table (t':=tk) (more:=#[rawInt pos.line,rawInt pos.col,.ref c']) (h':=h') I hP (fun b o hb e=>hx b o hb e) htb hge ⟨oc,vs,t,hoc,hd,hv⟩
    have hE:ExtN H (upd (upd H P (.tbl (ps++#[rawInt pos.line,rawInt pos.col,.ref c']))) c' (CodeO c' (X.env.qual++"<lambda>"))):=fun b o e n=>by
      rw[upd_ne (ne_of_none e nC),upd_ne (fun z=>n ps (Option.some.inj (e.symm.trans (by rw[z]; exact hP))))]
      exact e
    have eL:(ps++#[rawInt pos.line,rawInt pos.col,.ref c']).toList=ps.toList++[rawInt pos.line,rawInt pos.col,.ref c']:=by simp
    refine lay c' ctv h' tk _ I1 hE (fun p hp=>?_) (Nat.le_trans hge (Nat.le_of_lt hlt)) (.inl nC) upd_same
    by_cases hb:p.1=P
    · rw[hu p hp hb,hb]
      refine ⟨_,by rw[upd_ne (ne_of_none hP nC),upd_same],by rw[eL]; exact PySem.TriplesOk_snoc _ _ _ _ ht,fun p' cv hcv=>?_⟩
      rw[eL] at hcv
      rcases among_app _ ht hcv with z|z
      · obtain ⟨c0,e1,e2⟩:=ha p' cv z
        exact ⟨c0,e1,hE _ _ e2 codeO_ne⟩
      · exact ⟨c',z,upd_same⟩
    · obtain ⟨ps',a1,a2,a3⟩:=hT p hp
      refine ⟨ps',by rw[upd_ne (ne_of_none a1 nC),upd_ne hb]; exact a1,a2,fun p' cv hcv=>?_⟩
      obtain ⟨c0,e1,e2⟩:=a3 p' cv hcv
      exact ⟨c0,e1,hE _ _ e2 codeO_ne⟩
  | some cv=>
    obtain ⟨c',e,hco⟩:=ha pos cv hc
    subst e
    refine mk_hit (mg:=X.mg) (c:=c) (P:=P) (ps:=ps) (closure_ok hfree) I.ok.glob (I.mod.glob.keeps I.bk) hcode (TB.code.keeps I.bk) hP' ht hc bP fun ctv h' tk hx hsz=>?_
    have I1:Inv X pins σ H { s with heap:=h',toks:=tk }:=I.kept hx
    exact lay c' ctv h' tk H I1 (ExtN.refl H) hT hsz (.inr ⟨_,hco⟩) hco
end
def sG (k:Nat) (b:Bool) (q:Str) (F:Value→Addr→Value→Value→Obj):ME:=fun _ S=>.ok (.clo k b q F) S
section
variable {X:Cx} {W:WX}
theorem z7 {K:PySem.W.Frag} {mg:Str→Option Value} {μ:Mu} {H:Hp} {S:Sto} (rs:RelS K mg μ H S) {c c':Addr} {q:Str} (e:H c'=some (CodeO c q)):c'∉μ:=fun z=>by
  rcases z with z|z
  · obtain ⟨l,hl,e2⟩:=List.getElem_of_mem z
    exact rs.ncode (l:=l) (by rw[List.getElem?_eq_getElem hl,e2]) e
  · obtain ⟨u,h1,h2⟩:=rs.hid _ z
    rw[h1] at e
    exact h2.nc c q (Option.some.inj e)
/-- what was made,told -/
theorem sH {μ:Mu} {H H1:Hp} {S:Sto} {f c':Addr} {k:Nat} {q:Str} {F:Value→Addr→Value→Value→Obj} {pm ctv dv:Value} (rs:RelS X.K X.mg μ H S) (eN:ExtN H H1) (T1:Tabs (tbs X.K) H1) (hf:H f=none) (h1:H1 f=some (p0 f (F pm c' ctv dv)))
    (hc:H c'=none∨∃q,H c'=some (CodeO c' q)) (h2:H1 c'=some (CodeO c' q)) {b:Bool} (hd:DfO b H1 μ dv):Step μ H μ H1∧RelS X.K X.mg μ H1 S∧Rep X.K X.mg μ H1 (.clo k b q F) (.ref f):=by
  obtain ⟨st,rs1⟩:=kq rs eN T1
  refine ⟨st,rs1,?_⟩
  unfold Rep
  refine ⟨f,c',pm,ctv,dv,rfl,⟨h1,rs.fresh hf⟩,⟨h2,?_⟩,hd⟩
  rcases hc with hc|⟨_,hc⟩
  · exact rs.fresh hc
  · exact z7 rs hc
/-- a lambda without parameters,as a value -/
theorem z8 {p:Str × Option Str} {params:Arguments} {body:Expr} {scope:Scope} {pos:Pos} {k:Nat} {q:Str} {F:Value→Addr→Value→Value→Obj} (lh:LamHere X p) (L:LamS X.env.scope scope) (hq:q=X.env.qual++"<lambda>") (hF:F=v9 X params body scope)
    (hdef:defaultsOf params X.env=([],[]):=by rfl) (hpar:params.kwonlyargs=[]:=by rfl):PE X (.Lambda params body scope pos) (tE X W (sG k false q F)):=by
  subst hq hF
  refine ⟨fun pins s σ H Q I h=>?_⟩
  obtain ⟨env,S,μ,rl,o⟩:=h
  rw[arm_eval_Lambda,hdef]
  show wpAny _ _ (do let dv ←evalAll []; let kdv ←holding dv (evalAllOpt []); makeFunction "<lambda>" (X.env.qual++"<lambda>") params (.expr body) scope X.env dv kdv [] pos pos.line) _ _ s
  refine wpAny_bind (wpAny_pure (wpAny_bind (wpAny_holding (wpAny_pure ?_))))
  rw[makeFunction_eq]
  simp only[List.zip_nil_right,List.filterMap_nil,List.isEmpty_nil,if_true,pure_bind]
  refine sF I lh.tb lh.code lh.mem lh.uniq rl.sto.tab (L.has I.ok) fun f c' pm ctv H1 s' I1 eN T1 hf h1 hc h2=>?_
  obtain ⟨st,rs1,r⟩:=sH (k:=k) (F:=v9 X params body scope) (dv:=.none) (b:=false) rl.sto eN T1 hf h1 hc h2 nofun
  exact ⟨.ref f,H1,I1,rfl,o μ H1 (.ref f) st rs1 r⟩
/-- a lambda with one parameter that has the default 0 -/
theorem qT {p:Str × Option Str} {params:Arguments} {body:Expr} {scope:Scope} {x:Str} {pos:Pos} {k:Nat} {q:Str} {F:Value→Addr→Value→Value→Obj} {j:Nat} {pz:Pos} (lh:LamHere X p) (L:LamS1 X.env.scope scope x) (hq:q=X.env.qual++"<lambda>") (hF:F=wA X params body scope)
    (hdef:defaultsOf params X.env=([eval (.Constant (.int 0) j pz) X.env],[]):=by rfl) (hpar:params.kwonlyargs=[]:=by rfl):PE X (.Lambda params body scope pos) (tE X W (sG k true q F)):=by
  subst hq hF
  refine ⟨fun pins s σ H Q I h=>?_⟩
  obtain ⟨env,S,μ,rl,o⟩:=h
  rw[arm_eval_Lambda,hdef]
  show wpAny _ _ (do let dv ←evalAll [eval (.Constant (.int 0) j pz) X.env]; let kdv ←holding dv (evalAllOpt []); makeFunction "<lambda>" (X.env.qual++"<lambda>") params (.expr body) scope X.env dv kdv [] pos pos.line) _ _ s
  refine wpAny_bind ?_
  show wpAny _ _ (do let v ←eval (.Constant (.int 0) j pz) X.env; return v::(←holding [v] (evalAll []))) _ _ s
  refine wpAny_bind (wpAny_Constant_int ?_)
  refine wpAny_bind (wpAny_holding (wpAny_pure (wpAny_pure ?_)))
  refine wpAny_bind (wpAny_holding (wpAny_pure ?_))
  rw[makeFunction_eq]
  simp only[List.zip_nil_right,List.filterMap_nil,List.isEmpty_nil,List.isEmpty_cons,if_true,pure_bind,Bool.false_eq_true,if_false]
  refine wpAny_bind (wpAny_newTextTuple ?_)
  have I0:=I.tok (s.toks+1)
  have hn:H s.heap.objs.size=none:=I.hok.fresh (Nat.le_refl _)
  have I1:=I0.laid (t':=s.toks+1) (a:=s.heap.objs.size) (o:=.tup [.int 0]) (h':=s.heap.push { cls:=.type "tuple",data:=.seq #[Value.int 0 s.toks] }) (fun b u e=>Heap.get?_push_of_some _ e) (Nat.le_refl _) ⟨by rw[sizeLine_eq]; decide,[Value.int 0 s.toks],.cons ⟨_,rfl⟩ .nil,⟨_,Heap.get?_push_size _ rfl,rfl,_,rfl⟩⟩
  have up:Sm H (upd H s.heap.objs.size (.tup [.int 0])):=Sm.upd hn
  have rs0:=rl.sto.sm up
  refine sF (dV:=.ref s.heap.objs.size) I1 lh.tb lh.code lh.mem lh.uniq rs0.tab (L.has I.ok) fun f c' pm ctv H1 s' I2 eN T1 hf h1 hc h2=>?_
  have nT:s.heap.objs.size∉μ:=rl.sto.fresh hn
  obtain ⟨st,rs1,r⟩:=sH (k:=k) (F:=wA X params body scope) (dv:=.ref s.heap.objs.size) (b:=true) rs0 eN T1 hf h1 hc h2 (fun _=>⟨_,rfl,eN _ _ upd_same (fun _ z=>nomatch z),nT⟩)
  exact ⟨.ref f,H1,I2,rfl,o μ H1 (.ref f) ((Step.of_sm up).trans st) rs1 r⟩
end
end DL
namespace DL
open PySem PySem.Spec PyProof.Rows L2 LamX
section
variable {X:Cx}
/-- what a call of such a lambda does,from any frames above the one that made it -/
def um (X:Cx) (k:Nat) (b:Bool) (F:Value→Addr→Value→Value→Obj) (m:ME):Prop:=
  ∀ {pins:List (Addr × Obj)} {σ:L2.St} {H HZ:Hp} {s s1:Shared} {A:Around} {outer:List Env} {E:XK} {Q:VK} {μ:Mu} {f c':Addr} {pm ctv dv:Value},Inv X pins σ H s→Env0 X.prog X.w X.K X.mg X.base A outer s1 HZ→Un (frs X.stack) [] H HZ s.heap s1.heap→
    HZ f=some (p0 f (F pm c' ctv dv))→HZ c'=some (CodeO c' (X.env.qual++"<lambda>"))→DfO b HZ μ dv→Room (k+1) A→tE X (fun c d _ H=>E c d H) m σ HZ Q→
    codeAny (model X.prog X.w) A (.call (.ref f) ⟨[],[]⟩) (CR (L2.CX X.prog X.w) outer X.prog X.w HZ s1 Q E) s1
theorem yT {k:Nat} {params:Arguments} {body:Expr} {scope:Scope} {m:ME} (L:LamS X.env.scope scope) (hbind:∀(q:Str) (cl:List (Str × Addr)) (pm cv ctv:Value),bindArgs (PySem.W.kla_fn "<lambda>" q params body scope cl pm cv ctv) ⟨[],[]⟩=pure [])
    (hbody:∀(A:Around) (outer:List Env) (s:Shared) (H:Hp) (E:XK) (f c':Addr),Room k (lamCx X A outer s H E scope f c').A→∀W,Takes (lamCx X A outer s H E scope f c') W→PE (lamCx X A outer s H E scope f c') body (tE (lamCx X A outer s H E scope f c') W m)) :
    um X k false (v9 X params body scope) m:=by
  intro pins σ H HZ s s1 A outer E Q μ f c' pm ctv dv I e0 un hf hco _ hr ht
  have of1:=(e0.hok f _ hf).1
  obtain ⟨⟨oc,vs,t,hoc,hdc,hvc⟩,_,_⟩:=e0.hok c' _ hco
  refine PySem.W.kla_callFunE hr.depth of1 rfl L.co L.gen rfl ⟨c',oc,vs,t,rfl,hoc,hdc,hvc⟩ ?_
  have hb:=hbind (X.env.qual++"<lambda>") (cloFrom X.env.cells scope.names []) pm (.ref c') ctv
  show wpAny _ _ (bindArgs (PySem.W.kla_fn "<lambda>" (X.env.qual++"<lambda>") params body scope (cloFrom X.env.cells scope.names []) pm (.ref c') ctv) ⟨[],[]⟩) _ _ s1
  rw[hb]
  have lim:s1.heap.NoLimit:=e0.mod.nolimit.keeps fun b o e=>(e0.bs b o e).1
  refine wpAny_pure (wpAny_newFunctionEnv (fun y hy=>(L.own y hy).2) (fun y hy=>absurd hy (by simp)) (fun h₁ hns hsb=>⟨lim.fresh _ hsb,?_⟩) L.kind)
  show codeAny _ _ (.expr body (lamEnv X scope s1.heap.objs.size f c')) _ _
  have kp:∀b o,s1.heap.get? b=some o→h₁.get? b=some o:=fun b o e=>hsb.extBut b o (Nat.ne_of_lt (Heap.lt_size e)) (Heap.get?_push_of_some _ e)
  have J:Inv (lamCx X A outer s1 HZ E scope f c') [] σ HZ { s1 with heap:=h₁,toks:=s1.toks+([]:List (Str × Value)).length }:=lam_start2 I L e0 hr.hd un hns kp
  refine PySem.W.kla_codeExpr (wpAny_mono ((hbody A outer s1 HZ E f c' (hr.deeper _) (fun c d _ H=>E c d H) (mr (L2.takes_of rfl rfl rfl rfl))).run [] _ _ HZ Q J ht) (fun v s' hq=>?_) fun e s' hq=>hq)
  obtain ⟨w',H',J',rv,q⟩:=hq
  exact ⟨w',H',J'.os,J'.bare,J'.base,J'.hok,rv,q⟩
theorem yU {k i:Nat} {a:Arg} {ds:List Expr} {params:Arguments} {body:Expr} {scope:Scope} {m:ME} (L:LamS1 X.env.scope scope a.arg) (hp:params=⟨[],[a],none,[],[],none,ds⟩) (nd:X.N.Nodup) (hi:X.N[i]?=some a.arg)
    (hbody:∀(A:Around) (outer:List Env) (s:Shared) (H:Hp) (E:XK) (f c':Addr),Room k (lamCx X A outer s H E scope f c').A→∀W,Takes (lamCx X A outer s H E scope f c') W→PE (lamCx X A outer s H E scope f c') body (tE (lamCx X A outer s H E scope f c') W m)) :
    um X k true (wA X params body scope) (fun env S=>m (env.set i (some (.int 0))) S):=by
  intro pins σ H HZ s s1 A outer E Q μ f c' pm ctv dv I e0 un hf hco hd hr ht
  have of1:=(e0.hok f _ hf).1
  obtain ⟨⟨oc,vs,t,hoc,hdc,hvc⟩,_,_⟩:=e0.hok c' _ hco
  refine PySem.W.kla_callFunE hr.depth of1 rfl L.co L.gen rfl ⟨c',oc,vs,t,rfl,hoc,hdc,hvc⟩ ?_
  have lim:s1.heap.NoLimit:=e0.mod.nolimit.keeps fun b o e=>(e0.bs b o e).1
  have go:∀u,L2.RelV (.int 0) u→wpAny (model X.prog X.w) A.in1 (newFunctionEnv scope mainGlobals (cloFrom X.env.cells scope.names []) [(a.arg,u)] (X.env.qual++"<lambda>"++".<locals>.") (some f) (.ref c') none builtinsNs)
      (fun env s₂=>s₂.heap.NoLimit∧codeAny (model X.prog X.w) A (.expr body env) (CR (L2.CX X.prog X.w) outer X.prog X.w HZ s1 Q E) s₂) (fun e s'=>CR (L2.CX X.prog X.w) outer X.prog X.w HZ s1 Q E (.error e) s') s1:=fun u ru=>by
    refine wpAny_newFunctionEnv (fun y hy=>L.nocell y hy) (fun y hy=>by rw[List.mem_singleton.mp hy]; exact L.par) (fun h₁ hns hsb=>⟨lim.fresh _ hsb,?_⟩) L.kind
    show codeAny _ _ (.expr body (lamEnv X scope s1.heap.objs.size f c')) _ _
    have kp:∀b o,s1.heap.get? b=some o→h₁.get? b=some o:=fun b o e=>hsb.extBut b o (Nat.ne_of_lt (Heap.lt_size e)) (Heap.get?_push_of_some _ e)
    have J:Inv (lamCx X A outer s1 HZ E scope f c') [] (σ.set i (some (.int 0))) HZ { s1 with heap:=h₁,toks:=s1.toks+([(a.arg,u)]:List (Str × Value)).length }:=nD I L nd hi ru e0 hr.hd un hns kp
    have ht2:tE (lamCx X A outer s1 HZ E scope f c') (fun c d _ H=>E c d H) m (σ.set i (some (.int 0))) HZ Q:=by
      obtain ⟨env,S,μ1,rl,o⟩:=ht
      exact ⟨env.set i (some (.int 0)),S,μ1,⟨rl.env.set (az 0),rl.sto⟩,o⟩
    refine PySem.W.kla_codeExpr (wpAny_mono ((hbody A outer s1 HZ E f c' (hr.deeper _) (fun c d _ H=>E c d H) (mr (L2.takes_of rfl rfl rfl rfl))).run [] _ _ HZ Q J ht2) (fun v s' hq=>?_) fun e s' hq=>hq)
    obtain ⟨w',H',J',rv,q⟩:=hq
    exact ⟨w',H',J'.os,J'.bare,J'.base,J'.hok,rv,q⟩
  obtain ⟨T,rfl,hT,_⟩:=hd rfl
  obtain ⟨_,its,rv,o,ho,hc,n,hdt⟩:=e0.hok T _ hT
  obtain ⟨u,rfl,ru⟩:=vals1 rv
  exact wm hp rfl ho hdt (go u ru)
end
end DL
namespace DL
open PySem PySem.Spec PyProof.Rows L2 LamX
theorem nK {K:PySem.W.Frag} {mg:Str→Option Value} {μ:Mu} {H:Hp} {σ:L2.St}:∀(vs:List Nat) {env:En},RelE K mg μ H env σ→RelE K mg μ H (aU env vs) σ
  | [],_,r=>r
  | i::vs,env,r=>by
    have q:=nK vs r
    refine ⟨by show ((aU env vs).set i none).length=_; rw[List.length_set]; exact q.len,fun j d e=>?_⟩
    have e:((aU env vs).set i none)[j]?=some (some d):=e
    by_cases hj:j=i
    · subst hj
      rw[List.getElem?_set] at e
      simp only[if_true] at e
      split at e<;>cases e
    · rw[List.getElem?_set_ne (Ne.symm hj)] at e
      exact q.at_ j d e
/-- the lambdas of a frame: with a default or not,the name,the object,what it does -/
abbrev g6:=List (Bool × Str × (Value→Addr→Value→Value→Obj) × ME)
open Classical in
noncomputable def fM (hd:Hdr) (j:Nat) (fg:List Nat) (tab:g6):ME:=fun env S=>match env[j]? with
  | some (some (.clo k b q F))=>match tab[k]? with
    | some (b',q',F',m)=>if b=b'∧q=q'∧F=F' then fh hd (m (aU env fg) S) else .stuck
    | none=>.stuck
  | _=>.stuck
/-- one of them is right -/
structure nL (X:Cx) (k:Nat) (e:Bool × Str × (Value→Addr→Value→Value→Obj) × ME):Prop where
  nm:e.2.1=X.env.qual++"<lambda>"
  fn:∀pm c' ctv dv,∃fd,e.2.2.1 pm c' ctv dv={ cls:=.type "function",data:=.func fd }
  run:um X k e.1 e.2.2.1 e.2.2.2
section
variable {X:Cx} {W:WX}
theorem qCl0 {k:Nat} {params:Arguments} {body:Expr} {scope:Scope} {m:ME} (L:LamS X.env.scope scope)
    (hbody:∀(A:Around) (outer:List Env) (s:Shared) (H:Hp) (E:XK) (f c':Addr),Room k (lamCx X A outer s H E scope f c').A→∀W,Takes (lamCx X A outer s H E scope f c') W→PE (lamCx X A outer s H E scope f c') body (tE (lamCx X A outer s H E scope f c') W m))
    (hbind:∀(q:Str) (cl:List (Str × Addr)) (pm cv ctv:Value),bindArgs (PySem.W.kla_fn "<lambda>" q params body scope cl pm cv ctv) ⟨[],[]⟩=pure []:=by intros; rfl):nL X k (false,X.env.qual++"<lambda>",v9 X params body scope,m):=
  ⟨rfl,fun _ _ _ _=>⟨_,rfl⟩,yT L hbind hbody⟩
theorem qCl1 {k i:Nat} {a:Arg} {ds:List Expr} {body:Expr} {scope:Scope} {m:ME} (L:LamS1 X.env.scope scope a.arg) (nd:X.N.Nodup) (hi:X.N[i]?=some a.arg)
    (hbody:∀(A:Around) (outer:List Env) (s:Shared) (H:Hp) (E:XK) (f c':Addr),Room k (lamCx X A outer s H E scope f c').A→∀W,Takes (lamCx X A outer s H E scope f c') W→PE (lamCx X A outer s H E scope f c') body (tE (lamCx X A outer s H E scope f c') W m)) :
    nL X k (true,X.env.qual++"<lambda>",wA X ⟨[],[a],none,[],[],none,ds⟩ body scope,fun env S=>m (env.set i (some (.int 0))) S):=
  ⟨rfl,fun _ _ _ _=>⟨_,rfl⟩,yU L rfl nd hi hbody⟩
end
end DL
namespace DL
open PySem PySem.Spec PyProof.Rows L2 LamX
section
variable {X:Cx}
/-- a comprehension's block whose element may lean on the frame below,which stands as it stood -/
theorem z9 {pins:List (Addr × Obj)} {s:Shared} {σ:L2.St} {H:Hp} {Q:VK} {elt tg iter:Expr} {scope:Scope} {own:List (Str × Nat)} {pos pos':Pos} {wi:L2.TI} {g:TG} {tt:L2.TT} {te:TE} {use:Option (Value→Sem Unit)} {Qf:Value→Shared→Prop}
    (hc:X.calm=true) (hN:X.N.Nodup) (I:Inv X pins σ H s) (hi:PI X tg iter wi) (ok:BlkOk X.N X.env.scope scope own)
    (hg:∀(s:Shared) (H:Hp) (C:Addr) (cl:List (Str × Addr)) (fp:List Addr),PG (X.blk s H scope (compEnvC scope cl C X.env) fp) tg g)
    (ht:∀(s:Shared) (H:Hp) (C:Addr) (cl:List (Str × Addr)) (fp:List Addr),PTs (X.blk s H scope (compEnvC scope cl C X.env) fp) [] tt)
    (he:∀(s:Shared) (H:Hp) (C:Addr) (cl:List (Str × Addr)) (fp:List Addr) (pY:List (Addr × Obj)) (sY:Shared) (σY:L2.St) (HY:Hp) (QY:VK),Inv (X.blk s H scope (compEnvC scope cl C X.env) fp) pY σY HY sY→
      (∀(H':Hp) (s':Shared) (p':List (Addr × Obj)) (σ':L2.St),Inv (X.blk s H scope (compEnvC scope cl C X.env) fp) p' σ' H' s'→Inv X pins σ H' s')→L2.wipe σY (own.map (·.2))=L2.wipe σ (own.map (·.2))→te σY HY QY→
      wpAny (model X.prog X.w) X.A (eval elt (compEnvC scope cl C X.env)) (EP (X.blk s H scope (compEnvC scope cl C X.env) fp) pY σY QY) (fun _ _=>False) sY)
    (hs:∀x,foldedSetIterable iter X.env x=pure x) (h:tLc wi g tt te (own.map (·.2)) σ H Q)
    (hRR:∀D C s' m H',Inv X pins σ H' s'→Q (.ref D) H'→s'.heap.Ns C m→FpOk X pins H' C→compPost (model X.prog X.w) X.A X.xe use Qf (.ref D) C (.ok .next) s') :
    wpAny (model X.prog X.w) X.A (comprehension (.ListComp elt [⟨tg,iter,[],0⟩] scope pos) scope X.env pos' (newList []) false (eval iter X.env) use) Qf X.xe s:=by
  refine wpAny_comprehension_free (use:=use) rfl hs (closure_ok fun y hy e=>(ok.free y hy e).elim (fun k=>I.ok.has _ (.inl k)) fun k=>I.ok.has _ (.inr k)) ok.kind (fun y hy e=>by rw[ok.uniq y hy,e])
    (thn (hi.run pins s σ H _ I h) fun xv s1 hx=>thn hx fun itv s2 ⟨it,fp,tn,J,H2,e,I2,T,st2,f2,q⟩=>?_)
  subst e
  refine wpAny_newObj_type (newEnv_comp ?_) (by show 0≤sizeLine; decide)
  obtain ⟨D,hD⟩:∃D,D=s2.heap.objs.size:=⟨_,rfl⟩
  rw[←hD]
  obtain ⟨W,⟨m0,w0⟩,turn⟩:=q D (I2.hok.fresh (Nat.le_of_eq hD.symm))
  obtain ⟨s3,hs3⟩:∃s3:Shared,s3={ s2 with heap:=s2.heap.push { cls:=.type "list",data:=.seq ([]:List Value).toArray } }:=⟨_,rfl⟩
  obtain ⟨H3,hH3⟩:∃H3,H3=upd H2 D (.lst []):=⟨_,rfl⟩
  have h3:s3.heap=s2.heap.push { cls:=.type "list",data:=.seq ([]:List Value).toArray }:=by rw[hs3]
  have I3:Inv X pins σ H3 s3:=by
    rw[hs3,hH3]
    refine I2.laid (t':=s2.toks) (fun b o e=>Heap.get?_push_of_some _ e) (Nat.le_of_eq hD.symm) ⟨Nat.zero_le _,[],0,.nil,?_⟩
    rw[hD]
    exact Heap.get?_push_size _ rfl
  have f3:∀b∈fp,FpOk X pins H3 b∧b<s3.heap.objs.size:=fun b hb=>by
    obtain ⟨o,e,_⟩:=T.obj _ _ st2 b hb
    have hlt:=Heap.lt_size e
    refine ⟨⟨?_,(f2 b hb).2⟩,by rw[h3,Heap.size_push]; exact Nat.lt_succ_of_lt hlt⟩
    rw[hH3,upd_ne (by rw[hD]; exact Nat.ne_of_lt hlt)]
    exact (f2 b hb).1
  have I4:=block_start I3 ok hN f3
  have pg:=hg s3 H3 s3.heap.objs.size (cellsFrom (s3.heap.objs.size+1) scope.names (cloFrom X.env.cells scope.names [])) fp
  have pt:=ht s3 H3 s3.heap.objs.size (cellsFrom (s3.heap.objs.size+1) scope.names (cloFrom X.env.cells scope.names [])) fp
  have pe:=he s3 H3 s3.heap.objs.size (cellsFrom (s3.heap.objs.size+1) scope.names (cloFrom X.env.cells scope.names [])) fp
  rw[←hs3]
  show codeAny _ _ (.compStart (.ListComp elt [⟨tg,iter,[],0⟩] scope pos) 0 (.ref it) (.ref D) (compEnvC scope (cellsFrom (s3.heap.objs.size+1) scope.names (cloFrom X.env.cells scope.names [])) s3.heap.objs.size X.env)) (compPost (model X.prog X.w) X.A X.xe use Qf (.ref D) s3.heap.objs.size) { s3 with heap:=pushCells (s3.heap.push { cls:=.type "dict",data:=.dict #[] }) scope.names }
  obtain ⟨ce,hce⟩:∃ce,ce=compEnvC scope (cellsFrom (s3.heap.objs.size+1) scope.names (cloFrom X.env.cells scope.names [])) s3.heap.objs.size X.env:=⟨_,rfl⟩
  rw[←hce] at I4 pg pt pe ⊢
  obtain ⟨s4,hs4⟩:∃s4:Shared,s4={ s3 with heap:=pushCells (s3.heap.push { cls:=.type "dict",data:=.dict #[] }) scope.names }:=⟨_,rfl⟩
  rw[←hs4] at I4 ⊢
  have kp4:∀b o,s2.heap.get? b=some o→s4.heap.get? b=some o:=fun b o e=>by
    rw[hs4]
    refine pushCells_keeps _ _ _ _ (Heap.get?_push_of_some _ ?_)
    rw[h3]
    exact Heap.get?_push_of_some _ e
  have st4:tn 0 s4.heap:=T.keep _ _ _ st2 fun b _ o e=>kp4 b o e
  have stat:∀ {σ':L2.St} {H':Hp} {s':Shared},Inv (X.blk s3 H3 scope ce fp) [] σ' H' s'→(∀b∈fp,H' b=none)→∀b∈fp,FpOk (X.blk s3 H3 scope ce fp) [] H' b:=fun {σ' H' s'} I' hn b hb=>
    ⟨hn b hb,(I'.ok.exf b hb).1,I'.ok.exfs b hb,.inl hb,fun x c e=>(I'.ok.exf b hb).2 x c e,fun p hp=>absurd (show p∈([]:List (Addr × Obj))++[] from hp) (by simp)⟩
  have back:∀(H':Hp) (s':Shared) (p':List (Addr × Obj)) (σ':L2.St),Inv (X.blk s3 H3 scope ce fp) p' σ' H' s'→Inv X pins σ H' s':=fun H' s' p' σ' I'=>
    I3.call' (ch:=fp) I'.os I'.base I'.hok I'.bare fun b hb=>⟨(f3 b hb).1.2.2.2.1,(f3 b hb).1.2.1,(f3 b hb).1.2.2.2.2.1,(f3 b hb).1.2.2.2.2.2⟩
  have n3:∀b∈fp,H3 b=none:=fun b hb=>(f3 b hb).1.1
  have loop:codeAny (model X.prog X.w) X.A (.compLoop (.ListComp elt [⟨tg,iter,[],0⟩] scope pos) 0 (.ref it) (.ref D) ce) (compPost (model X.prog X.w) X.A X.xe use Qf (.ref D) s3.heap.objs.size) s4:=by
    refine compLoop_any (fun n s'=>∃i H',Inv (X.blk s3 H3 scope ce fp) [] (L2.wipe σ (own.map (·.2))) H' s'∧tn i s'.heap∧(∀b∈fp,H' b=none)∧W i n H') ?_ m0 ⟨0,H3,I4,st4,n3,by rw[hH3]; exact w0⟩
    rintro n s5 ⟨i,H5,I5,st5,n5,w5⟩
    rcases turn i n H5 w5 with ⟨stop,qq⟩|⟨go,Nx,hNx,step⟩
    · refine thnF (T.done (X.blk s3 H3 scope ce fp) rfl rfl rfl hc i [] s5 _ H5 (fun _ _=>False) I5 (stat I5 n5) st5 stop) fun r s6 ⟨hr,I6⟩=>?_
      subst hr
      have z:H5 ce.locals=none:=I6.free
      obtain ⟨m,hn,_⟩:=I6.loc
      have hn:s6.heap.Ns ce.locals m:=hn
      have cL:ce.locals=s3.heap.objs.size:=by rw[hce]; rfl
      rw[cL] at z hn
      exact hRR D s3.heap.objs.size s6 m H5 (back _ _ _ _ I6) qq hn (I3.fpOk (Nat.le_refl _) z)
    · refine thnF (T.item (X.blk s3 H3 scope ce fp) rfl rfl rfl hc i [] s5 _ H5 (fun _ _=>False) I5 (stat I5 n5) st5 go) fun r s6 ⟨u,hr,h6⟩=>?_
      subst hr
      refine thnF h6 fun _ s7 ⟨x,H7,I7,r7,y7,st7,n7⟩=>?_
      refine thnF (pg.run _ s7 _ H7 x u _ (I7.pinned (stat I7 n7) (T.obj _ _ st7)) r7 (step x H7 y7)) fun _ s8 ⟨σ8,H8,I8,hw8,q8⟩=>?_
      refine thnF (pt.run _ s8 σ8 H8 _ I8 q8) fun b s9 ⟨H9,I9,q9⟩=>?_
      have fin:∀ {s':Shared} {H':Hp},Inv (X.blk s3 H3 scope ce fp) ([]++pinsAt fp s7.heap) σ8 H' s'→Nx H'→∃m,m<n∧∃i H',Inv (X.blk s3 H3 scope ce fp) [] (L2.wipe σ (own.map (·.2))) H' s'∧tn i s'.heap∧(∀b∈fp,H' b=none)∧W i m H':=fun {s' H'} I' nx=>by
        obtain ⟨m',hm,w'⟩:=hNx H' nx
        have pin':∀b∈fp,∀o,s7.heap.get? b=some o→s'.heap.get? b=some o∧H' b=none:=fun b hb o e=>
          let z:=I'.pin (b,o) (List.mem_append_right _ (List.mem_append_right _ (mem_pinsAt hb e)))
          ⟨z.1,z.2.1⟩
        refine ⟨m',hm,i+1,H',(I'.unpinned (pins:=[])).weak (by rw[←hw8,L2.wipe_length]) (fun j v e=>?_),T.keep _ _ _ st7 fun b hb o e=>(pin' b hb o e).1,fun b hb=>?_,w'⟩
        · rw[←hw8] at e
          exact (wipe_some e).1
        · obtain ⟨o,e,_⟩:=T.obj _ _ st7 b hb
          exact (pin' b hb o e).2
      cases b with
      | false=>
        simp only[Bool.false_eq_true,if_false] at q9 ⊢
        exact fin I9 q9
      | true=>
        simp only[if_true] at q9 ⊢
        refine thnF (pe _ s9 σ8 H9 _ I9 back hw8 q9) fun z s10 ⟨yv,H10,I10,r10,acc,hD10,hz10,nx⟩=>?_
        exact app_ok (X:=X.blk s3 H3 scope ce fp) I10 hD10 hz10 r10 fun s11 I11=>fin I11 nx
  exact codeAny_compStart_list loop (T.self X.A 0 _ _ _ st4 loop)
/-- the outer frame's reading of what the block read -/
theorem wo {K:PySem.W.Frag} {mg:Str→Option Value} {μ:Mu} {H:Hp} {env:En} {σ σY:L2.St} {vs fg:List Nat} (r:RelE K mg μ H env σY) (hw:L2.wipe σY vs=L2.wipe σ vs) (hv:∀v∈vs,v∈fg):RelE K mg μ H (aU env fg) σ:=by
  have hl:σY.length=σ.length:=by rw[←L2.wipe_length σY vs,hw,L2.wipe_length]
  refine ⟨by rw[df,r.len,hl],fun i d e=>?_⟩
  obtain ⟨e1,n1⟩:=jS e
  obtain ⟨v,e2,r2⟩:=r.at_ i d e1
  have nv:i∉vs:=fun z=>n1 (hv i z)
  refine ⟨v,?_,r2⟩
  rw[←L2.wipe_out (σ:=σ) nv,←hw,L2.wipe_out nv]
  exact e2
theorem yV {W:WX} {k j:Nat} {x y:Str} {g:Addr} {hd:Hdr} {fg:List Nat} {tab:g6} {mi:MI} {iter:Expr} {scope:Scope} {own:List (Str × Nat)} {pos cpos ppos p2 tp:Pos} {gm:MG}
    (hc:X.calm=true) (hNd:X.N.Nodup) (kf:KindF X.prog X.w X.K X.mg X.base k x g hd) (hm:X.mg x=some (.ref g)) (hr:Room (k+2) X.A) (hN:X.N[j]?=some y) (hy:(relS scope X.env.scope).names.lookup y=some .local) (hgl:(relS scope X.env.scope).names.lookup x=some .globalImplicit)
    (ht:∀e∈tab,nL X k e) (hi:PI X (.Name y tp) iter (tI X W mi)) (ok:BlkOk X.N X.env.scope scope own) (hfg:∀v∈own.map (·.2),v∈fg)
    (hg:∀(s:Shared) (H:Hp) (C:Addr) (cl:List (Str × Addr)) (fp:List Addr),PG (X.blk s H scope (compEnvC scope cl C X.env) fp) (.Name y tp) (tGc (X.blk s H scope (compEnvC scope cl C X.env) fp) (own.map (·.2)) gm))
    (hs:∀x,foldedSetIterable iter X.env x=pure x:=by intro _; rfl) (hdb:(x == ("__debug__":Str))=false:=by decide) (hyd:(y == ("__debug__":Str))=false:=by decide) (hyc:(y == ("__classdict__":Str))=false:=by decide) :
    PE X (.ListComp (.Call (.Name x ppos) [.Name y p2] [] cpos) [⟨.Name y tp,iter,[],0⟩] scope pos) (tE X W (b6 mi gm cD (fM hd j fg tab) (own.map (·.2)))):=by
  obtain ⟨pg,bg,sg,dV,kV,doc,pmg,cdv,ct,oc,an,od,osl,Ng,a,lk,hcg,hb,Sg,hNg,hva,hda,hca,hG⟩:=kf.ex
  refine ⟨fun pins s σ H Q I h=>?_⟩
  have h2:=uW (X:=X) (own:=own) (ke h)
  rw[eval_ListComp]
  refine z9 (g:=tGc X (own.map Prod.snd) gm) (te:=tE X W0 (fM hd j fg tab)) hc hNd I hi ok hg (tt:=tT X W0 cD) (fun s0 H0 C cl fp=>show PTs (X.blk s0 H0 scope (compEnvC scope cl C X.env) fp) [] (tT X W0 cD) from cQ (X:=X.blk s0 H0 scope (compEnvC scope cl C X.env) fp)) (fun s0 H0 C cl fp pY sY σY HY QY IY back hw hte=>?_) hs h2 fun D C s' m H' I' q hn f=>⟨m,hn,fun h'' sb=>?_⟩
  · obtain ⟨env,S,μ,rl,o⟩:=hte
    unfold fM at o
    split at o
    · rename_i kk b q F he
      split at o
      · rename_i b' q' F' m het
        split at o
        · rename_i hcc
          obtain ⟨rfl,rfl,rfl⟩:=hcc
          obtain ⟨hq,hfun,hrun⟩:=ht _ (List.mem_of_getElem? het)
          simp only at hq hrun hfun
          subst hq
          obtain ⟨v,hσ,rv⟩:=rl.env.at_ j _ he
          unfold Rep at rv
          obtain ⟨f,c',pm,ctv,dv,rfl,⟨hf,nf⟩,⟨hco,nc⟩,hdf⟩:=rv
          refine wpAny_Call_Name_kw (ld_glob IY hgl hm ?_ hdb)
          refine PySem.W.callWith_K (h₀:=X.base) IY.ok.mod.kin kf.kp ?_ (by rfl) (by rfl)
          show wpAny _ _ (spliced ((false,eval (.Name y p2) (compEnvC scope cl C X.env))::backTo cpos (starEach [] (compEnvC scope cl C X.env)))) _ _ sY
          refine Calls.spliced_cons ?_
          refine thnF ((pe_var (X:=X.blk s0 H0 scope (compEnvC scope cl C X.env) fp) (pos:=p2) (i:=j) hN (.inl hy) hyd hyc).run pY sY σY HY (fun v H1=>v=.ref f∧H1=HY) IY ⟨.ref f,hσ,rfl,rfl⟩) fun u s1 ⟨v,H1,I1,r1,q1⟩=>?_
          obtain ⟨ev,eH⟩:=q1
          subst ev eH
          obtain rfl:u=Value.ref f:=r1
          refine Calls.spliced_nil ⟨I1.kIn,?_⟩
          have IX:=back _ _ _ _ I1
          have hteX:tE X W0 (rp hd m) σ H1 QY:=⟨aU env fg,S,μ,⟨wo rl.env hw hfg,rl.sto⟩,o⟩
          have rc:codeAny (model X.prog X.w) X.A (.call (.ref g) ⟨[.ref f],[]⟩) (CR C8.CX0 X.stack X.prog X.w H1 s1 QY C8.E0) s1:=by
            refine run_ofS (N:=Ng) (ps:=[a]) (us:=[.ref f]) (vs:=[.ref f]) lk hcg Sg hr IX.env0 (hb s1 [.ref f] IX.kIn rfl) (.cons rfl .nil) rfl fun hr'=>?_
            have hgv:=hG X rfl rfl rfl rfl rfl hr (X.env.qual++"<lambda>") f c' s1 H1 QY
              (fun E HZ Q'=>HZ f=some (p0 f (F pm c' ctv dv))∧DfO b HZ μ dv∧tE X (fun c d _ H=>E c d H) m σ HZ Q')
            refine Exists.elim (hgv (fun W pn xe E p1 p2 tk hW=>?_) hco ?_) fun t' h3=>⟨t',h3.1.nox,h3.2⟩
            · refine ⟨fun pinsZ sZ σZ HZ QZ IZ hZ=>?_⟩
              obtain ⟨hs,hcZ,hfZ,hdZ,htZ⟩:=hZ
              refine wpAny_Call_Name_kw (thn ((pe_var (pos:=p1) (i:=0) hNg hva hda hca).run pinsZ sZ σZ HZ (fun v H1=>v=.ref f∧H1=HZ) IZ ⟨.ref f,hs,rfl,rfl⟩) fun u s2 ⟨v,H2,I2,r2,q2⟩=>?_)
              obtain ⟨ev,eH⟩:=q2
              subst ev eH
              obtain rfl:u=Value.ref f:=r2
              have of1:s2.heap.get? f=some (F pm c' ctv dv):=(I2.hok f _ hfZ).1
              obtain ⟨fd,efd⟩:=hfun pm c' ctv dv
              rw[efd] at of1
              refine PySem.W.callWith_F0 ⟨_,_,_,_,of1⟩ ?_
              have un:Un (frs X.stack) [] H1 H2 s1.heap s2.heap:=I2.base
              have rc:=hrun IX I2.env0 un hfZ hcZ hdZ hr' htZ
              have hx:=passes_call tk hW
              refine wpAny_call (codeAny_mono rc fun r s' hq=>?_)
              cases r with
              | error e=>exact hx pinsZ σZ H2 s2 e s' I2 hq
              | ok fl=>
                cases fl with
                | ret u=>exact I2.after hq
                | next=>exact False.elim hq
                | brk=>exact False.elim hq
                | cont=>exact False.elim hq
            · exact ⟨hf,hdf,(t_kind hteX).2 H1 (ExtN.refl H1) rl.sto.tab⟩
          refine wpAny_call (codeAny_mono rc fun r s2 hq=>?_)
          cases r with
          | error e=>exact (show False from hq).elim
          | ok fl=>
            cases fl with
            | ret u=>exact I1.after hq
            | next=>exact False.elim hq
            | brk=>exact False.elim hq
            | cont=>exact False.elim hq
        · exact o.elim
      · exact o.elim
    · exact o.elim
  · obtain ⟨f0,f1,f2,f3,f4,f5⟩:=f
    exact ⟨.ref D,H',I'.turned (t':=s'.toks) (fun b o hb e=>(sb.2 b hb).trans e) f0 f1 f3 f4 f5,rfl,q⟩
end
end DL
namespace DL
open PySem PySem.Spec PyProof.Rows L2 LamX
theorem kr (env:En):∀(vs:List Nat) (t:Nat),(aU env vs)[t]?=if t∈vs then env[t]?.map (fun _=>none) else env[t]?
  | [],t=>by simp[aU]
  | v::vs,t=>by
    unfold aU
    rw[List.getElem?_set,kr env vs t,df]
    by_cases hv:v=t
    · subst hv
      by_cases hl:v<env.length
      · simp[hl]
      · simp[hl]
    · have:¬t=v:=fun z=>hv z.symm
      simp[hv,this]
theorem ku {env:En} {v:Option D} {a:Nat} {fg:List Nat} (h:a∈fg):aU (env.set a v) fg=aU env fg:=by
  apply List.ext_getElem?
  intro t
  rw[kr,kr,List.getElem?_set]
  by_cases ht:t∈fg
  · rw[if_pos ht,if_pos ht]
    by_cases ha:a=t
    · subst ha
      by_cases hl:a<env.length
      · simp[hl]
      · simp[hl]
    · simp[ha]
  · rw[if_neg ht,if_neg ht]
    have:a≠t:=fun z=>ht (z▸h)
    simp[this]
theorem uo {env:En} {vs fg:List Nat} (h:∀v∈vs,v∈fg):aU (aU env vs) fg=aU env fg:=by
  induction vs with
  | nil=>rfl
  | cons v vs ih=>
    show aU ((aU env vs).set v none) fg=_
    rw[ku (h v List.mem_cons_self),ih fun u hu=>h u (List.mem_cons_of_mem _ hu)]
/-- what they tell,one by one -/
def g7 (hd:Hdr) (e:En):List ME→List D→Sto→Res (List D)
  | [],acc,S=>.ok acc S
  | m::ms,acc,S=>(fh hd (m e S)).bindS fun v S3=>if acc.length<1000000 then g7 hd e ms (acc++[v]) S3 else .stuck
def eG (hd:Hdr) (fg:List Nat) (ms:List ME):ME:=fun env S=>(g7 hd (aU env fg) ms [] S).bind fun ds S=>.ok (.lst ds) S
/-- the lambdas as values -/
def sJ:Nat→g6→List D
  | _,[]=>[]
  | k,e::es=>.clo k e.1 e.2.1 e.2.2.1::sJ (k+1) es
theorem pH {hd:Hdr} {j:Nat} {fg:List Nat} {tab:g6} (hj:j∈fg):∀(post pre:g6) (w:En) (acc:List D) (S:Sto),tab=pre++post→j<w.length→
    c8 (gV j) cD (fM hd j fg tab) w (sJ pre.length post) acc S=g7 hd (aU w fg) (post.map (·.2.2.2)) acc S
  | [],pre,w,acc,S,_,_=>rfl
  | e::post,pre,w,acc,S,ht,hl=>by
    show (eA (gV j) cD (fM hd j fg tab) w (.clo pre.length e.1 e.2.1 e.2.2.1) acc S).bindS _=_
    have e1:fM hd j fg tab (w.set j (some (.clo pre.length e.1 e.2.1 e.2.2.1))) S=fh hd (e.2.2.2 (aU w fg) S):=by
      unfold fM
      rw[List.getElem?_set_self hl]
      have:tab[pre.length]?=some e:=by rw[ht,List.getElem?_append_right (Nat.le_refl _),Nat.sub_self]; rfl
      simp[this,ku hj]
    have e2:eA (gV j) cD (fM hd j fg tab) w (.clo pre.length e.1 e.2.1 e.2.2.1) acc S=(fh hd (e.2.2.2 (aU w fg) S)).bindS fun v S3=>if acc.length<1000000 then .ok (acc++[v]) S3 else .stuck:=by
      unfold eA
      simp only[gV_at,yE]
      show (if true=true then (fM hd j fg tab (w.set j (some (.clo pre.length e.1 e.2.1 e.2.2.1))) S).bindS (fun v S3=>if acc.length<1000000 then .ok (acc++[v]) S3 else .stuck) else Res.ok acc S)=_
      rw[if_pos rfl,e1]
    rw[e2]
    show _=(fh hd (e.2.2.2 (aU w fg) S)).bindS _
    cases fh hd (e.2.2.2 (aU w fg) S) with
    | ok v S3=>
      show Res.bindS (if acc.length<1000000 then .ok (acc++[v]) S3 else .stuck) _=if acc.length<1000000 then _ else .stuck
      by_cases hc:acc.length<1000000
      · rw[if_pos hc,if_pos hc]
        have:=pH (hd:=hd) (tab:=tab) hj post (pre++[e]) w (acc++[v]) S3 (by rw[ht,List.append_assoc]; rfl) hl
        rw[List.length_append] at this
        exact this
      · rw[if_neg hc,if_neg hc]
        rfl
    | exc x S3=>rfl
    | stuck=>rfl
/-- the whole comprehension -/
theorem wq {hd:Hdr} {j:Nat} {fg:List Nat} {tab:g6} {mi:MI} {env:En} {S:Sto} (hm:mi env S=.ok (.items (sJ 0 tab)) S) (hl:j<env.length) (hj:j∈fg) :
    b6 mi (gV j) cD (fM hd j fg tab) [j] env S=eG hd fg (tab.map (·.2.2.2)) env S:=by
  unfold b6 eG gN
  rw[hm]
  show (c8 (gV j) cD (fM hd j fg tab) (aU env [j]) (sJ 0 tab) [] S).bind _=_
  have:=pH (hd:=hd) (tab:=tab) hj tab [] (aU env [j]) [] S rfl (by rw[df]; exact hl)
  rw[List.length_nil] at this
  rw[this,uo fun v hv=>by rw[List.mem_singleton.mp hv]; exact hj]
theorem nM {hd:Hdr} {fg:List Nat} {ms:List ME} {env:En} {S:Sto} {i:Nat} {v:Option D} (hi:i∈fg):eG hd fg ms (env.set i v) S=eG hd fg ms env S:=by
  unfold eG
  rw[ku hi]
theorem jr (hd:Hdr) (e:En):∀(ms:List ME) (acc:List D) (S:Sto),(∃ds S1,g7 hd e ms acc S=.ok ds S1)∨g7 hd e ms acc S=.stuck
  | [],acc,S=>.inl ⟨_,_,rfl⟩
  | m::ms,acc,S=>by
    unfold g7
    cases fh hd (m e S) with
    | ok v S3=>
      show (∃ds S1,(if acc.length<1000000 then g7 hd e ms (acc++[v]) S3 else .stuck)=.ok ds S1)∨(if acc.length<1000000 then g7 hd e ms (acc++[v]) S3 else .stuck)=.stuck
      by_cases hc:acc.length<1000000
      · rw[if_pos hc]
        exact jr hd e ms _ _
      · rw[if_neg hc]
        exact .inr rfl
    | exc x S3=>exact .inr rfl
    | stuck=>exact .inr rfl
theorem qU (hd:Hdr) (fg:List Nat) (ms:List ME) (env:En) (S:Sto):(∃d S1,eG hd fg ms env S=.ok d S1)∨eG hd fg ms env S=.stuck:=by
  unfold eG
  rcases jr hd (aU env fg) ms [] S with ⟨ds,S1,e⟩|e
  · rw[e]; exact .inl ⟨_,_,rfl⟩
  · rw[e]; exact .inr rfl
theorem yW {α:Type} (S:Sto) (o:Option α) (env:En) (k:α→Sto→RS):(ofO S o).rs env k=match o with|some a=>k a S|none=>.stuck:=by cases o<;>rfl
/-- forgetting slots -/
def oV (fg:List Nat):MS:=fun env S=>.next (aU env fg) S
def sK (n:Nat) (m:MS):MS:=fun env S=>if env.length=n then m env S else .stuck
section
variable {X:Cx} {W:WX} {ss:List Stmt} {m m':MS}
theorem AA (fg:List Nat) (h:PSs X ss (tS X W m)):PSs X ss (tS X W (aT (oV fg) m)):=mY h fun D σ H ⟨env,S,μ,rl,o⟩=>⟨aU env fg,S,μ,⟨nK fg rl.env,rl.sto⟩,o⟩
theorem AB (n:Nat) (h:PSs X ss (tS X W m)):PSs X ss (tS X W (sK n m)):=mY h fun D σ H ⟨env,S,μ,rl,o⟩=>⟨env,S,μ,rl,by
  unfold sK at o
  split at o
  · exact o
  · exact o.elim⟩
theorem sSs_eq (e:m=m') (h:PSs X ss (tS X W m)):PSs X ss (tS X W m'):=e▸h
theorem cl_nil {k:Nat}:∀e∈([]:g6),nL X k e:=fun e h=>nomatch h
theorem mH {k:Nat} {e:Bool × Str × (Value→Addr→Value→Value→Obj) × ME} {es:g6} (h:nL X k e) (hs:∀e∈es,nL X k e):∀x∈e::es,nL X k x:=fun x hx=>by
  rcases List.mem_cons.mp hx with rfl|hx
  · exact h
  · exact hs x hx
end
end DL
namespace DL
open PySem PySem.Spec PyProof.Rows L2 LamX
/-- x=x+cs,one more appended; x is a list that nobody else holds -/
def wB (i:Nat) (cs:List D) (c:D):MS:=fun env S=>match env[i]? with
  | some (some (.lst xs))=>if xs.length+(cs++[c]).length≤1000000 then .next (env.set i (some (.lst (xs++(cs++[c]))))) S else .stuck
  | _=>.stuck
section
variable {X:Cx} {W:WX}
theorem wC (a b:MS) (env:En) (S:Sto):aT a b env S=(a env S).andThen b:=rfl
theorem nN (env:En) (S:Sto) (k:En→Sto→RS):RS.andThen (.next env S) k=k env S:=rfl
theorem yX (c:Prop) [Decidable c] (b:Bool) (r:D) (S:Sto) (e1 e2:En) (m1 m2:MS) (h:m1 e1 S=m2 e2 S) :
    (Res.rs e1 ((ofO S (if c then some (D.bool b) else none)).bind fun d S=>match d with
      | .bool b=>.ok b S
      | _=>.stuck) fun c S=>if c=true then RS.ret r S else RS.next e1 S).andThen m1 =
    (Res.rs e2 ((ofO S (if c then some (D.bool b) else none)).bind fun d S=>match d with
      | .bool b=>.ok b S
      | _=>.stuck) fun c S=>if c=true then RS.ret r S else RS.next e2 S).andThen m2:=by
  by_cases hc:c
  · rw[if_pos hc]
    cases b with
    | true=>rfl
    | false=>exact h
  · rw[if_neg hc]; rfl
end
end DL
namespace DL
open PySem PySem.Spec PyProof.Rows L2
section
variable {X:Cx} {W:WX}
def dRep:D→D→Option D
  | .lst xs,.int k=>if 0≤k∧k≤1000∧xs.length*k.toNat≤1000000 then some (.lst (List.replicate k.toNat xs).flatten) else none
  | _,_=>none
@[simp] theorem dRep_at (xs:List D) (k:Int):dRep (.lst xs) (.int k)=if 0≤k∧k≤1000∧xs.length*k.toNat≤1000000 then some (.lst (List.replicate k.toNat xs).flatten) else none:=rfl
theorem RepAll.rep {K:PySem.W.Frag} {mg:Str→Option Value} {μ:Mu} {H:Hp} {ds:List D} {vs:List V} (h:RepAll K mg μ H ds vs):∀k:Nat,RepAll K mg μ H (List.replicate k ds).flatten (List.replicate k vs).flatten
  | 0=>.nil
  | k+1=>by
    rw[List.replicate_succ,List.replicate_succ,List.flatten_cons,List.flatten_cons]
    exact h.append (RepAll.rep h k)
theorem o_rep:OpR X (binaryOp .Mult) (rP X.K X.mg dRep):=fun pins s σ H x y v u Q I rx ry ⟨μ,S,a,b,d,rs,ra,rb,e,q⟩=>
  op_rep pins s σ H x y v u Q I rx ry (by
    have wa:=rs.view ra
    have wb:=rs.view rb
    unfold lv at e
    generalize view S a=va at e wa
    generalize view S b=vb at e wb
    unfold dRep at e
    split at e
    · rename_i xs k
      split at e
      · rename_i hk
        cases e
        obtain ⟨ad,vs,rfl,h1,h2⟩:=wa
        have hv:=wb.int
        subst hv
        exact ⟨ad,k,vs,rfl,rfl,h1,by omega,by omega,by rw[←h2.length]; exact cp hk.2.2,fun p hp=>q _ _ (.upd hp) (bt rs hp (h2.rep _))⟩
      · cases e
    · cases e)
end
end DL
namespace DL
open PySem PySem.Spec PyProof.Rows L2
end DL
namespace DL
open PySem PySem.Spec PyProof.Rows L2
end DL
namespace DL
open PySem PySem.Spec PyProof.Rows L2
/-- one turn: the items made so far,behind it; an exception goes on -/
def wD (g:MG) (m:ME) (w:En) (d:D) (acc:List D) (S:Sto):Res (List D):=match g d w S with
  | none=>.stuck
  | some p=>(m p.1 p.2).bind fun v S3=>if acc.length<1000000 then .ok (acc++[v]) S3 else .stuck
def kw (g:MG) (m:ME) (w:En):List D→List D→Sto→Res (List D)
  | [],acc,S=>.ok acc S
  | d::ds,acc,S=>(wD g m w d acc S).bind fun acc S=>kw g m w ds acc S
def uq (g:MG) (m:ME) (w:En) (l:Nat):Nat→Nat→List D→Sto→Res (List D)
  | 0,_,_,_=>.stuck
  | n+1,i,acc,S=>match S[l]? with
    | some (.lst xs)=>match xs[i]? with
      | none=>.ok acc S
      | some d=>(wD g m w d acc S).bind fun acc S=>uq g m w l n (i+1) acc S
    | _=>.stuck
def uu (mi:MI) (g:MG) (m:ME) (vs:List Nat):MA:=fun env S=>(mi env S).bind fun it S=>match it with
  | .items ds=>kw g m (aU env vs) ds [] S
  | .live l=>uq g m (aU env vs) l (dB S l+1) 0 [] S
  | .liveE _=>.stuck
def eCompX (mi:MI) (g:MG) (m:ME) (vs:List Nat):ME:=fun env S=>(uu mi g m vs env S).bind fun ds S=>.ok (.lst ds) S
end DL
namespace DL
open PySem PySem.Spec PyProof.Rows L2
/-- at A.m stands v -/
structure ClV (K:PySem.W.Frag) (A:Addr) (m:Str) (v:Value):Prop where
  rd:PySem.W.readsIn K A (.type "type")=true
  ga:PySem.W.specialIn K (.ref A) "__getattribute__"=some (some (.builtin "type.__getattribute__"))
  up:PySem.W.findCls K (.ref A) (.type "type") m=some (.val v)
theorem AC {K:PySem.W.Frag} {A:Addr} {m:Str} {v:Value} (h:clVB K A m v=true):ClV K A m v:=by
  unfold clVB at h
  simp only[Bool.and_eq_true] at h
  obtain ⟨⟨h1,h2⟩,h3⟩:=h
  refine ⟨h1,He.eqO_ok h2,?_⟩
  split at h3
  · rename_i u e
    rw[of_decide_eq_true h3] at e
    exact e
  · cases h3
theorem AD {K:PySem.W.Frag} {C:Addr} (h:oexB K C=true):OexC K C:=by
  unfold oexB at h
  simp only[Bool.and_eq_true,decide_eq_true_eq] at h
  obtain ⟨⟨⟨⟨q,h2⟩,h3⟩,h4⟩,h5⟩:=h
  refine ⟨?_,He.eqO_ok h2,h3,h4,h5⟩
  split at q
  · rename_i dd cd sl ho
    split at q
    · rename_i C' bm k0 k1 k2 k3 n k5 hm hs
      simp only[Bool.and_eq_true,beq_iff_eq,Bool.not_eq_true'] at q
      obtain ⟨⟨⟨⟨rfl,rfl⟩,hdel⟩,hdi⟩,hr⟩:=q
      obtain ⟨nm,bs,mro,ns,qn,hd,sn,sub,ab,col,del⟩:=cd
      dsimp only at hm hdel hdi
      subst hm hdel hdi
      have hsl:sl=#[k0,k1,k2,k3,some (.builtin "ValueError.__new__"),k5]:=by
        obtain ⟨l⟩:=sl
        simp only at hs
        rw[hs]
      subst hsl
      exact ⟨nm,qn,ns,bs,bm,sn,sub,ab,col,dd,k0,k1,k2,k3,k5,ho,hr⟩
    · cases q
  · cases q
/-- an own error with fields: its class at C,its __init__ at fI,the class above at A -/
structure ExcI (K:PySem.W.Frag) (C fI A:Addr) (ns:List Str):Prop where
  ox:OexC K C
  ini:PySem.W.findIn K (.ref C) "__init__"=some (some (.ref fI))
  ty:PySem.W.typeIn K (.ref fI)=some (.type "function")
  fl:∀n∈ns,PySem.W.findIn K (.ref C) n=some none
  up:ClV K A "__init__" (.builtin "ValueError.__init__")
theorem yY {K:PySem.W.Frag} {C fI A:Addr} {ns:List Str} (h:xX K C fI A ns=true):ExcI K C fI A ns:=by
  unfold xX at h
  simp only[Bool.and_eq_true,decide_eq_true_eq,List.all_eq_true] at h
  obtain ⟨⟨⟨⟨h1,h2⟩,h3⟩,h4⟩,h5⟩:=h
  exact ⟨AD h1,He.eqO_ok h2,h3,fun n hn=>He.eqO_ok (h4 n hn),AC h5⟩
/-- the call of y.m is evaluated as a method's call -/
def yZ (y nm:Str) (p1 p2 pos:Pos) (es:List Expr) (env:Env):Prop:=∃pl:Sem Bool,eval (.Call (.Attribute (.Name y p1) nm p2) es [] pos) env=(do
      let ov ←eval (.Name y p1) env
      standAt p2.atName
      let (f,first) ←holding [ov] (getMethod ov nm pl)
      callWith pos f first (backTo pos (starEach es env)) (backToKw pos (keywordEach [] env)))
section
variable {X:Cx} {e:Expr} {es:List Expr} {ta:TA} {y:Str} {A:Addr} {p1 p2 pos:Pos}
/-- A.__init__(self,..),A without an own one -/
theorem wt (hg:Gl X y) (hm:X.mg y=some (.ref A)) (V:ClV X.K A "__init__" (.builtin "ValueError.__init__")) (ha:PA X (e::es) ta) (hdb:(y == ("__debug__":Str))=false:=by decide)
    (hc:yZ y "__init__" p1 p2 pos (e::es) X.env)
    (he:starEach (e::es) X.env=(false,eval e X.env)::starEach es X.env:=by rfl) (hpl:(backTo pos (starEach es X.env)).any (·.1)=false:=by rfl) :
    PE X (.Call (.Attribute (.Name y p1) "__init__" p2) (e::es) [] pos) (tVeI X.K ta):=by
  obtain ⟨pl,hc⟩:=hc
  refine ⟨fun pins s σ H Q I h=>?_⟩
  refine PySem.W.methodCall_KW (ld_glob I hg hm ?_ hdb) hc
  refine PySem.W.method_cls I.kIn V.ga (PySem.W.cls_value I.kIn V.rd V.up rfl ?_)
  show wpAny _ _ (callWith pos (Value.builtin "ValueError.__init__") [] (backTo pos (starEach (e::es) X.env)) []) _ _ _
  refine PyProof.Rows.callWith_method1 (thn (ha.run pos pins _ σ H _ (I.tok _) h) fun us s1 ⟨vs,H1,I1,r1,a,C,ws,ev,hl,T,ea,q⟩=>?_) he hpl
  subst ev
  cases r1 with
  | @cons _ u0 _ ur ra rw'=>
    obtain rfl:u0=Value.ref a:=ra
    have hlen:ur.length≤sizeLine:=by
      rw[←Paired.length rw',sizeLine_eq]
      omega
    exact oinit_ok T I1 ea hlen fun s' J=>⟨.non,H1,J,rfl,q⟩
end
/-- what such an __init__ keeps: the fields are these -/
def spI (C:Addr) (ns:List Str):Sp:=fun vs H Q E=>∃(a:Addr) (ys:List V),vs=.ref a::ys∧ys.length=ns.length∧H a=some (exo a C none)∧
  ∀dx H',H dx=none→dx≠a→H' a=some (exo a C (some dx))→H' dx=some (exd dx (ns.zip ys).reverse)→(∀b,b≠a→b≠dx→H' b=H b)→Q .non H'
section
variable {P:Program} {w:World} {K:PySem.W.Frag} {mg:Str→Option Value} {base:Heap} {qual y m f1 f2:Str} {params:Arguments} {body:List Stmt} {scope:Scope} {C fI A:Addr} {fd:FuncData} {k j:Nat}
  {p1 p2 p3 p4 p5 p6 q1 q2 q3 q4 r1 r2 r3 r4:Pos}
theorem js {N ps:List Str} (S:FnScope N ps scope) {x:Str} (h:x∈ps):Vis scope x:=(S.par x h).elim .inl fun z=>.inr (.inl z)
theorem ya (T:ExcI K C fI A [f1,f2]) (F:FunD K "__init__" qual params body scope [] [] fI fd) (S:FnScope ["self",f1,f2] ["self",f1,f2] scope) (hA:mg y=some (.ref A)) (hg:scope.names.lookup y=some .globalImplicit)
    (hb:body=[.Expr (.Call (.Attribute (.Name y p1) "__init__" p2) [.Name "self" p3,.Constant (.str m) j p4] [] p5) p6,.Assign [.Attribute (.Name "self" q1) f1 q2] (.Name f1 q3) q4,.Assign [.Attribute (.Name "self" r1) f2 r2] (.Name f2 r3) r4])
    (hce:∀(n:Nat) (cdv:Value),yZ y "__init__" p1 p2 p5 [.Name "self" p3,.Constant (.str m) j p4] (envOfC qual scope n fI cdv))
    (hdb:(y == ("__debug__":Str))=false:=by decide) (hd1:(f1 == ("__debug__":Str))=false:=by decide) (hc1:(f1 == ("__classdict__":Str))=false:=by decide) (hd2:(f2 == ("__debug__":Str))=false:=by decide) (hc2:(f2 == ("__classdict__":Str))=false:=by decide) :
    FnOk P w K mg base C8.CX0 (k+1) fI fd ["self",f1,f2] (spI C [f1,f2]):=by
  subst hb
  refine FunD.ok F S (fun vs H Q E ⟨a,ys,e,hl,_⟩=>by rw[e]; simp[hl]) fun cdv A0 outer s H vs Q E hr ⟨a,ys,e,hl,ha,hq⟩=>?_
  subst e
  match ys,hl with
  | [v1,v2],_=>
    refine ⟨_,pss_cons (ps_expr (wt (A:=A) hg hA T.up (pa_cons (pe_var (i:=0) rfl (js S (by simp))) (pa_cons pe_str pa_nil)) hdb (hce _ _))) (pss_cons (ps_ost (pe_var (i:=0) rfl (js S (by simp))) (pe_var (i:=1) rfl (js S (by simp)) hd1 hc1))
      (pss_one (ps_ost (pe_var (i:=0) rfl (js S (by simp))) (pe_var (i:=2) rfl (js S (by simp)) hd2 hc2)))),?_⟩
    refine ⟨.ref a,rfl,a,C,[.str m],rfl,by simp,T.ox,ha,?_⟩
    refine ⟨v1,rfl,.ref a,rfl,a,C,rfl,T.ox,T.fl f1 (by simp),.inl ⟨ha,fun dx hd hne=>?_⟩⟩
    refine ⟨v2,rfl,.ref a,rfl,a,C,rfl,T.ox,T.fl f2 (by simp),.inr ⟨dx,[(f1,v1)],upd_same,by rw[upd_ne hne,upd_same],by simp,?_⟩⟩
    refine hq dx _ hd hne ?_ upd_same fun b h1 h2=>?_
    · rw[upd_ne (Ne.symm hne),upd_same]
    · rw[upd_ne h2,upd_ne h1,upd_ne h2]
end
def fS (C:Str) (ns:List Str) (r:MA):MS:=fun env S=>(r env S).rs env fun ds S=>if ds.length=ns.length∧ns≠[]∧ns.length≤1000 then .exc ⟨C,(ns.zip ds).reverse⟩ env S else .stuck
section
variable {X:Cx} {W:WX} {x:Str} {C fI A:Addr} {fd:FuncData} {k:Nat} {ns:List Str} {e:Expr} {es:List Expr} {r:MA} {p pos pos':Pos}
theorem map_fst_zip {α β:Type}:∀ {as:List α} {bs:List β},as.length=bs.length→(as.zip bs).map (·.1)=as
  | [],[],_=>rfl
  | a::as,b::bs,h=>by simp[map_fst_zip (as:=as) (bs:=bs) (by simpa using h)]
theorem map_snd_zip {α β:Type}:∀ {as:List α} {bs:List β},as.length=bs.length→(as.zip bs).map (·.2)=bs
  | [],[],_=>rfl
  | a::as,b::bs,h=>by simp[map_snd_zip (as:=as) (bs:=bs) (by simpa using h)]
theorem AE {α β:Type} {as:List α} {bs:List β} (h:as.length=bs.length):as.reverse.zip bs.reverse=(as.zip bs).reverse:=by
  unfold List.zip
  exact (List.reverse_zipWith h).symm
theorem RepAll.rev {K:PySem.W.Frag} {mg:Str→Option Value} {μ:Mu} {H:Hp} {ds:List D} {vs:List V} (h:RepAll K mg μ H ds vs):RepAll K mg μ H ds.reverse vs.reverse:=h.reverse
theorem wu {ps:List Str} (hc:X.calm=true) (tk:Takes X W) (T:ExcI X.K C fI A ns) (F:FnOk X.prog X.w X.K X.mg X.base C8.CX0 k fI fd ps (spI C ns)) (hb:Binds X.K fd ps []) (hr:Room (k+1) X.A) (gC:X.mg x=some (.ref C)) (hg:Gl X x)
    (ha:PA X (e::es) (tAs X W r)) (hdb:(x == ("__debug__":Str))=false:=by decide) (he:starEach (e::es) X.env=(false,eval e X.env)::starEach es X.env:=by rfl) (hpl:(backTo pos (starEach es X.env)).any (·.1)=false:=by rfl) :
    PS X (.Raise (some (.Call (.Name x p) (e::es) [] pos)) none pos') (tS X W (fS x ns r)):=
  fZ (L2N.ps_raise hc tk (xn T.ox T.ini T.ty F hr hb pass0 hg gC ha hdb he hpl)) fun D σ H ⟨env,S,μ,rl,o⟩=>by
    refine ⟨env,S,μ,rl,(OutS.rs rl.env o).mono fun vs H1 ⟨μ1,S1,ds,st,rs,ra,o1⟩=>?_⟩
    split at o1
    · rename_i hl
      obtain ⟨hl,hn,h1000⟩:=hl
      have hlv:vs.length=ns.length:=by rw[←ra.length]; exact hl
      refine ⟨by omega,fun a na=>⟨a,vs,by simp,hlv,upd_same,fun dx H' hd hne e1 e2 e3=>?_⟩⟩
      rw[upd_ne hne] at hd
      refine ⟨rfl,dx,_,e1,e2,hd,?_⟩
      have eH:upd (del H' a) dx (.xd (ns.zip vs).reverse)=upd H1 dx (.xd (ns.zip vs).reverse):=by
        funext b
        by_cases h1:b=dx
        · subst h1; rw[upd_same,upd_same]
        · rw[upd_ne h1,upd_ne h1]
          by_cases h2:b=a
          · subst h2; rw[del_same,na]
          · rw[del_ne h2,e3 b h2 h1,upd_ne h2]
      rw[eH]
      have sm:Sm H1 (upd H1 dx (.xd (ns.zip vs).reverse)):=.upd hd
      have st2:Step μ1 H1 μ1 (upd H1 dx (.xd (ns.zip vs).reverse)):=.of_sm sm
      refine o1 μ1 _ σ (.ref C) (some dx) st2 ((rl.env.step st).step st2) (rs.sm sm) ⟨C,gC,rfl,.inr ⟨?_,dx,vs.reverse,rfl,?_,?_⟩⟩
      · intro z
        have z:(ns.zip ds).reverse=[]:=z
        rw[List.reverse_eq_nil_iff,List.zip_eq_nil_iff] at z
        rcases z with z|z
        · exact hn z
        · rw[z] at hl
          exact hn (List.eq_nil_of_length_eq_zero hl.symm)
      · rw[upd_same]
        show some (HO.xd _)=some (HO.xd _)
        rw[List.map_reverse,map_fst_zip hl.symm,AE hlv.symm]
      · show RepAll _ _ _ _ (((ns.zip ds).reverse).map (·.2)) _
        rw[List.map_reverse,map_snd_zip hl.symm]
        exact RepAll.step st2 _ _ ra.rev
    · exact o1.elim
end
end DL
namespace DL
open PySem PySem.Spec PyProof.Rows L2
def yb (cn:Str) (n k:Nat) (mi:MF) (r rk:MA):ME:=fun env S=>(r env S).bind fun ds S=>(rk env S).bind fun zs S=>if ds.length+1=k then (chk n mi (.loc S.length::(ds++zs)) (S++[.ins cn []])).bind (fun d S'=>match d with
  | .none=>.ok (.loc S.length) S'
  | _=>.stuck) else .stuck
section
variable {X:Cx} {W:WX} {k n:Nat} {f C A:Addr} {ps ks:List Str} {m mi:MF} {x y nm cn kn:Str} {dv:Int} {p p1 p2 pos kpos:Pos} {e ek:Expr} {es:List Expr} {r:MA} {mk:ME}
theorem gZ {x:Str} {fI:Addr} {ns:List Str} {pos':Pos} (hc:X.calm=true) (tk:Takes X W) (T:ExcI X.K C fI A ns) (F:∃fd,FnOk X.prog X.w X.K X.mg X.base C8.CX0 k fI fd ps (spI C ns)∧Binds X.K fd ps []) (hr:Room (k+1) X.A) (gC:X.mg x=some (.ref C)) (hg:Gl X x)
    (ha:PA X (e::es) (tAs X W r)) (hdb:(x == ("__debug__":Str))=false:=by decide) (he:starEach (e::es) X.env=(false,eval e X.env)::starEach es X.env:=by rfl) (hpl:(backTo pos (starEach es X.env)).any (·.1)=false:=by rfl) :
    PS X (.Raise (some (.Call (.Name x p) (e::es) [] pos)) none pos') (tS X W (fS x ns r)):=by
  obtain ⟨fd,F,hb⟩:=F
  exact wu hc tk T F hb hr gC hg ha hdb he hpl
end
end DL
namespace DL
open PySem PySem.Spec PyProof.Rows L2
end DL
namespace DL
open PySem PySem.Spec PyProof.Rows L2 LamX
/-- keeps what is wanted from being rewritten ahead of its time -/
inductive Dum {α:Type} (x:α):Type where
  | mk
/-- what holds behind an expression -/
@[irreducible] def Res.wp {α:Type} (r:Res α) (Q:α→Sto→Prop) (E:XV→Sto→Prop) (_:Dum Q:=.mk) (_:Dum E:=.mk) (_:True:=trivial):Prop:=match r with
  | .ok a S=>Q a S
  | .exc e S=>E e S
  | .stuck=>False
/-- what holds behind statements: next,return,raise,break,continue -/
@[irreducible] def RS.wp (x:RS) (N:En→Sto→Prop) (R:D→Sto→Prop) (E:XV→Sto→Prop) (B C:En→Sto→Prop) (_:Dum N:=.mk) (_:Dum R:=.mk) (_:Dum E:=.mk) (_:Dum B:=.mk) (_:Dum C:=.mk) (_:True:=trivial):Prop:=match x with
  | .next e S=>N e S
  | .brk e S=>B e S
  | .cont e S=>C e S
  | .ret d S=>R d S
  | .exc e _ S=>E e S
  | .stuck=>False
abbrev NoE:XV→Sto→Prop:=fun _ _=>False
abbrev NoB:En→Sto→Prop:=fun _ _=>False
@[simp] theorem NoE_at (e:XV) (S:Sto):NoE e S=False:=rfl
@[simp] theorem NoB_at (e:En) (S:Sto):NoB e S=False:=rfl
section
variable {α β:Type} {Q Q':α→Sto→Prop} {E E':XV→Sto→Prop} {N N' B B' C C':En→Sto→Prop} {R R':D→Sto→Prop} {S:Sto} {env:En}
@[simp] theorem eh {a:α}:Res.wp (.ok a S) Q E=Q a S:=by unfold Res.wp; rfl
@[simp] theorem nO:Res.wp (.stuck:Res α) Q E=False:=by unfold Res.wp; rfl
@[simp] theorem qV {a:XV}:Res.wp (.exc a S:Res α) Q E=E a S:=by unfold Res.wp; rfl
@[simp] theorem ky:RS.wp .stuck N R E B C=False:=by unfold RS.wp; rfl
@[simp] theorem gb {a:En}:RS.wp (.next a S) N R E B C=N a S:=by unfold RS.wp; rfl
@[simp] theorem wE {a:D}:RS.wp (.ret a S) N R E B C=R a S:=by unfold RS.wp; rfl
@[simp] theorem AF {a:XV}:RS.wp (.exc a env S) N R E B C=E a S:=by unfold RS.wp; rfl
@[simp] theorem AG {a:En}:RS.wp (.brk a S) N R E B C=B a S:=by unfold RS.wp; rfl
@[simp] theorem jt {a:En}:RS.wp (.cont a S) N R E B C=C a S:=by unfold RS.wp; rfl
@[simp ↓] theorem AH {r:Res β} {f:β→Sto→Res α}:Res.wp (r.bind f) Q E=Res.wp r (fun a S=>Res.wp (f a S) Q E) E:=by cases r<;>simp[Res.bind]
@[simp ↓] theorem wp_rs {r:Res β} {k:β→Sto→RS}:RS.wp (r.rs env k) N R E B C=Res.wp r (fun a S=>RS.wp (k a S) N R E B C) E:=by cases r<;>simp[Res.rs]
@[simp ↓] theorem wp_then {r:RS} {k:MS}:RS.wp (r.andThen k) N R E B C=RS.wp r (fun e S=>RS.wp (k e S) N R E B C) R E B C:=by cases r<;>simp[RS.andThen]
theorem AI {r:Res α} (h:Res.wp r Q E) (i:∀a S,Q a S→Q' a S) (j:∀a S,E a S→E' a S):Res.wp r Q' E':=by
  cases r with
  | ok a S=>rw[eh] at *; exact i a S h
  | exc e S=>rw[qV] at *; exact j e S h
  | stuck=>rw[nO] at *; exact h
/-- a call whose rule is known; nothing is raised -/
theorem dR {r:Res α} (h:Res.wp r Q NoE) (i:∀a S,Q a S→Q' a S):Res.wp r Q' E':=AI h i fun _ _ z=>z.elim
theorem sL {r:RS} (h:RS.wp r N R E B C) (hn:∀a S,N a S→N' a S) (hr:∀a S,R a S→R' a S) (he:∀a S,E a S→E' a S:=by exact fun _ _ h=>h) (hb:∀a S,B a S→B' a S:=by exact fun _ _ h=>h) (hc:∀a S,C a S→C' a S:=by exact fun _ _ h=>h):RS.wp r N' R' E' B' C':=by
  cases r with
  | next a S=>rw[gb] at *; exact hn a S h
  | ret a S=>rw[wE] at *; exact hr a S h
  | exc a e S=>rw[AF] at *; exact he a S h
  | brk a S=>rw[AG] at *; exact hb a S h
  | cont a S=>rw[jt] at *; exact hc a S h
  | stuck=>rw[ky] at *; exact h
theorem qW {c:Prop} [Decidable c] {a b:RS} (h1:c→RS.wp a N R E B C) (h2:¬c→RS.wp b N R E B C):RS.wp (if c then a else b) N R E B C:=by
  by_cases h:c
  · rw[if_pos h]; exact h1 h
  · rw[if_neg h]; exact h2 h
/-- what a def gives -/
theorem aX {n:Nat} {m:MS} {ds:List D} {Q:D→Sto→Prop} (h:RS.wp (m (ds.map some++List.replicate n none) S) (fun _ S=>Q .none S) Q E NoB NoB):Res.wp (bG n m ds S) Q E:=by
  rw[yF]
  generalize m (ds.map some++List.replicate n none) S=x at h
  cases x<;>simpa using h
theorem AJ {τ:Type} {g:MG} {b:MS} {f:τ→D} (I:List τ→List τ→En→Sto→Prop) (xs:List τ)
    (step:∀pre x rest env S,pre++x::rest=xs→I pre (x::rest) env S→∃p,g (f x) env S=some p∧RS.wp (b p.1 p.2) (I (pre++[x]) rest) R E N (I (pre++[x]) rest))
    (fin:∀env S,I xs [] env S→N env S):∀(pre rest:List τ) (env:En) (S:Sto),pre++rest=xs→I pre rest env S→RS.wp (iT g b (rest.map f) env S) N R E B C:=by
  intro pre rest
  induction rest generalizing pre with
  | nil=>
    intro env S e h
    rw[List.append_nil] at e
    subst e
    show RS.wp (.next env S) N R E B C
    rw[gb]
    exact fin env S h
  | cons x rest ih=>
    intro env S e h
    obtain ⟨p,e1,hb⟩:=step pre x rest env S e h
    rw[List.map_cons]
    unfold iT
    rw[e1]
    simp only[]
    generalize b p.1 p.2=y at hb
    cases y with
    | next e' S'=>rw[gb] at hb; exact ih (pre++[x]) e' S' (by rw[←e]; simp) hb
    | cont e' S'=>rw[jt] at hb; exact ih (pre++[x]) e' S' (by rw[←e]; simp) hb
    | brk e' S'=>simpa using hb
    | ret d S'=>simpa using hb
    | exc x e' S'=>simpa using hb
    | stuck=>simpa using hb
theorem dU {τ:Type} {g:MG} {b:MS} {f:τ→D} {ds:List D} {env:En} {S:Sto} (xs:List τ) (I:List τ→List τ→En→Sto→Prop) (e:ds=xs.map f) (h:I [] xs env S)
    (step:∀pre x rest env S,pre++x::rest=xs→I pre (x::rest) env S→∃p,g (f x) env S=some p∧RS.wp (b p.1 p.2) (I (pre++[x]) rest) R E N (I (pre++[x]) rest))
    (fin:∀env S,I xs [] env S→N env S):RS.wp (iT g b ds env S) N R E B C:=by
  subst e
  exact AJ I xs step fin [] xs env S rfl h
/-- a comprehension -/
theorem nP {τ:Type} {g:MG} {tc:MT} {m:ME} {w:En} {f:τ→D} {ds:List D} {Q:List D→Sto→Prop} (xs:List τ) (I:List τ→List τ→List D→Sto→Prop) (e:ds=xs.map f) (h:I [] xs [] S)
    (step:∀pre x rest acc S,pre++x::rest=xs→I pre (x::rest) acc S→∃p,g (f x) w S=some p∧Res.wp (tc p.1 p.2) (fun c S=>if c=true then Res.wp (m p.1 S) (fun v S=>acc.length<1000000∧I (pre++[x]) rest (acc++[v]) S) NoE else I (pre++[x]) rest acc S) NoE)
    (fin:∀acc S,I xs [] acc S→Q acc S):Res.wp (c8 g tc m w ds [] S) Q E:=by
  subst e
  have loop:∀(rest pre:List τ) (acc:List D) (S:Sto),pre++rest=xs→I pre rest acc S→Res.wp (c8 g tc m w (rest.map f) acc S) Q E:=by
    intro rest
    induction rest with
    | nil=>
      intro pre acc S e h
      rw[List.append_nil] at e
      rw[e] at h
      show Res.wp (.ok acc S) Q E
      rw[eh]
      exact fin acc S h
    | cons x rest ih=>
      intro pre acc S e h
      obtain ⟨p,e1,ht⟩:=step pre x rest acc S e h
      rw[List.map_cons]
      unfold c8 eA
      simp only[e1]
      generalize tc p.1 p.2=y at ht
      cases y with
      | exc _ _=>simp at ht
      | stuck=>simp at ht
      | ok c S1=>
        rw[eh] at ht
        have ht:if c=true then Res.wp (m p.1 S1) (fun v S=>acc.length<1000000∧I (pre++[x]) rest (acc++[v]) S) NoE else I (pre++[x]) rest acc S1:=ht
        cases c with
        | false=>
          simp only[bZ,Bool.false_eq_true,if_false] at ht ⊢
          exact ih (pre++[x]) acc S1 (by rw[←e]; simp) ht
        | true=>
          simp only[bZ,if_true] at ht ⊢
          generalize m p.1 S1=z at ht
          cases z with
          | exc _ _=>simp at ht
          | stuck=>simp at ht
          | ok v S2=>
            rw[eh] at ht
            obtain ⟨hl,hi⟩:=ht
            simp only[bZ,hl,if_true]
            exact ih (pre++[x]) (acc++[v]) S2 (by rw[←e]; simp) hi
  exact loop xs [] [] S rfl h
/-- a comprehension of what changes nothing,by an own filter and function -/
theorem uv {τ:Type} {g:MG} {tc:MT} {m:ME} {w:En} {f:τ→D} {S:Sto} (xs:List τ) (p:τ→Bool) (v:τ→D) (hl:xs.length≤1000000)
    (hx:∀x∈xs,∃e,g (f x) w S=some (e,S)∧tc e S=.ok (p x) S∧(p x=true→m e S=.ok (v x) S)):c8 g tc m w (xs.map f) [] S=.ok ((xs.filter p).map v) S:=by
  have loop:∀(rest:List τ) (acc:List D),(∀x∈rest,x∈xs)→acc.length+rest.length≤1000000→c8 g tc m w (rest.map f) acc S=.ok (acc++(rest.filter p).map v) S:=by
    intro rest
    induction rest with
    | nil=>intro acc _ _; simp[c8]
    | cons x rest ih=>
      intro acc hm hl
      obtain ⟨e,e1,e2,e3⟩:=hx x (hm x List.mem_cons_self)
      rw[List.length_cons] at hl
      rw[List.map_cons]
      unfold c8 eA
      simp only[e1,e2,bZ]
      cases hp:p x with
      | false=>
        simp only[Bool.false_eq_true,if_false,bZ]
        rw[ih acc (fun y hy=>hm y (List.mem_cons_of_mem _ hy)) (by omega)]
        simp[hp]
      | true=>
        have ha:acc.length<1000000:=by omega
        simp only[if_true,e3 hp,bZ,ha]
        rw[ih (acc++[v x]) (fun y hy=>hm y (List.mem_cons_of_mem _ hy)) (by simp; omega)]
        simp[hp]
  exact (loop xs [] (fun _ h=>h) (by simpa using hl)).trans (by simp)
/-- while,by a measure -/
theorem sM {c:MT} {b:MS} (I:Nat→En→Sto→Prop)
    (step:∀k env S,I k env S→Res.wp (c env S) (fun t S=>if t=true then RS.wp (b env S) (fun e S=>∃j,j<k∧I j e S) R E N (fun e S=>∃j,j<k∧I j e S) else N env S) E) :
    ∀(n k:Nat) (env:En) (S:Sto),k<n→I k env S→RS.wp (gS c b n env S) N R E B C:=by
  intro n
  induction n with
  | zero=>intro k env S h; omega
  | succ n ih=>
    intro k env S h hi
    unfold gS
    have hs:=step k env S hi
    generalize c env S=y at hs
    cases y with
    | stuck=>simp at hs
    | exc x S'=>simpa using hs
    | ok t S'=>
      rw[eh] at hs
      have hs:if t=true then RS.wp (b env S') (fun e S=>∃j,j<k∧I j e S) R E N (fun e S=>∃j,j<k∧I j e S) else N env S':=hs
      rw[rs_ok]
      cases t with
      | false=>simpa using hs
      | true=>
        simp only[if_true] at hs ⊢
        generalize b env S'=z at hs
        cases z with
        | next e S2=>rw[gb] at hs; obtain ⟨j,hj,hi⟩:=hs; exact ih j e S2 (by omega) hi
        | cont e S2=>rw[jt] at hs; obtain ⟨j,hj,hi⟩:=hs; exact ih j e S2 (by omega) hi
        | brk e S2=>simpa using hs
        | ret e S2=>simpa using hs
        | exc x e S2=>simpa using hs
        | stuck=>simpa using hs
end
end DL
namespace DL
open PySem PySem.Spec PyProof.Rows L2 LamX
@[simp] theorem AK (a b:String):(Str.ofString a=Str.ofString b)↔a=b:=by
  refine ⟨fun h=>?_,fun h=>by rw[h]⟩
  rw[Str.ofString_eq_toList,Str.ofString_eq_toList] at h
  have h1:a.toList.map Char.toNat=b.toList.map Char.toNat:=by simpa using h
  have h2:a.toList=b.toList:=(List.map_inj_right fun x y e=>Char.toNat_inj.mp e).mp h1
  exact String.toList_inj.mp h2
@[simp] theorem lookup_if (k a:Str) (v:D) (r:List (Str × D)):List.lookup k ((a,v)::r)=if k=a then some v else List.lookup k r:=by
  rw[List.lookup_cons]
  by_cases h:k=a
  · rw[if_pos h,show (k == a)=true by simp[h]]
  · rw[if_neg h,show (k == a)=false by simp[h]]
def c4 (xs ys:List D):Bool:=PyData.eqvAll (pdFs xs) (pdFs ys)
@[simp] theorem peqAll_nil:c4 [] []=true:=by simp[c4,pdFs,PyData.eqvAll]
@[simp] theorem Ax (x:D) (xs:List D):c4 [] (x::xs)=false:=by simp[c4,pdFs,PyData.eqvAll]
@[simp] theorem Ay (x:D) (xs:List D):c4 (x::xs) []=false:=by simp[c4,pdFs,PyData.eqvAll]
@[simp] theorem Az (x y:D) (xs ys:List D):c4 (x::xs) (y::ys)=(peq x y&&c4 xs ys):=by simp[c4,peq,pdFs,PyData.eqvAll]
@[simp] theorem AL (i j:Int):peq (.int i) (.int j)=decide (i=j):=by unfold peq pdF PyData.eqv; exact Bool.beq_eq_decide_eq i j
@[simp] theorem AM (i j:Str):peq (.str i) (.str j)=decide (i=j):=by unfold peq pdF PyData.eqv; exact Bool.beq_eq_decide_eq i j
@[simp] theorem peq_bool (i j:Bool):peq (.bool i) (.bool j)=(i == j):=by unfold peq pdF PyData.eqv; rfl
@[simp] theorem yc (xs ys:List D):peq (.tup xs) (.tup ys)=c4 xs ys:=by unfold peq pdF PyData.eqv; rfl
@[simp] theorem peq_tp (xs ys:List D):peq (.tup xs) (.tpn ys)=c4 xs ys:=by unfold peq pdF PyData.eqv; rfl
@[simp] theorem peq_pt (xs ys:List D):peq (.tpn xs) (.tup ys)=c4 xs ys:=by unfold peq pdF PyData.eqv; rfl
@[simp] theorem peq_pp (xs ys:List D):peq (.tpn xs) (.tpn ys)=c4 xs ys:=by unfold peq pdF PyData.eqv; rfl
@[simp] theorem peq_ll (xs ys:List D):peq (.lst xs) (.lst ys)=c4 xs ys:=by unfold peq pdF PyData.eqv; rfl
@[simp] theorem peq_nn:peq .none .none=true:=by unfold peq pdF PyData.eqv; rfl
@[simp] theorem peq_lt (xs ys:List D):peq (.lst xs) (.tup ys)=false:=by unfold peq pdF PyData.eqv; rfl
@[simp] theorem peq_tl (xs ys:List D):peq (.tup xs) (.lst ys)=false:=by unfold peq pdF PyData.eqv; rfl
@[simp] theorem peq_sl (x:Str) (ys:List D):peq (.str x) (.lst ys)=false:=by unfold peq pdF PyData.eqv; rfl
@[simp] theorem peq_ls (x:Str) (ys:List D):peq (.lst ys) (.str x)=false:=by unfold peq pdF PyData.eqv; rfl
@[simp] theorem peq_st (x:Str) (ys:List D):peq (.str x) (.tup ys)=false:=by unfold peq pdF PyData.eqv; rfl
@[simp] theorem peq_ts (x:Str) (ys:List D):peq (.tup ys) (.str x)=false:=by unfold peq pdF PyData.eqv; rfl
@[simp] theorem peq_nt (ys:List D):peq .none (.tup ys)=false:=by unfold peq pdF PyData.eqv; rfl
@[simp] theorem peq_tn (ys:List D):peq (.tup ys) .none=false:=by unfold peq pdF PyData.eqv; rfl
@[simp] theorem peq_is (i:Int) (x:Str):peq (.int i) (.str x)=false:=by unfold peq pdF PyData.eqv; rfl
@[simp] theorem peq_si (i:Int) (x:Str):peq (.str x) (.int i)=false:=by unfold peq pdF PyData.eqv; rfl
@[simp] theorem peq_it (i:Int) (x:List D):peq (.int i) (.tup x)=false:=by unfold peq pdF PyData.eqv; rfl
@[simp] theorem peq_ti (i:Int) (x:List D):peq (.tup x) (.int i)=false:=by unfold peq pdF PyData.eqv; rfl
@[simp] theorem peq_ni (i:Int):peq .none (.int i)=false:=by unfold peq pdF PyData.eqv; rfl
@[simp] theorem peq_in (i:Int):peq (.int i) .none=false:=by unfold peq pdF PyData.eqv; rfl
@[simp] theorem peq_ns (i:Str):peq .none (.str i)=false:=by unfold peq pdF PyData.eqv; rfl
@[simp] theorem peq_sn (i:Str):peq (.str i) .none=false:=by unfold peq pdF PyData.eqv; rfl
@[simp] theorem dok_none (n:Nat):dok n .none=true:=by cases n<;>rfl
@[simp] theorem dok_bool (n:Nat) (b:Bool):dok n (.bool b)=true:=by cases n<;>rfl
@[simp] theorem AN (n:Nat) (i:Int):dok n (.int i)=true:=by cases n<;>rfl
@[simp] theorem dok_str (n:Nat) (x:Str):dok n (.str x)=PyData.strOk x:=by cases n<;>rfl
@[simp] theorem AO (n:Nat) (xs:List D):dok (n+1) (.tup xs)=xs.all (dok n):=rfl
@[simp] theorem AP (n:Nat) (xs:List D):dok (n+1) (.lst xs)=xs.all (dok n):=rfl
@[simp] theorem AQ (n:Nat) (xs:List D):dok (n+1) (.tpn xs)=xs.all (dok n):=rfl
@[simp] theorem dok_tup60 (xs:List D):dok 60 (.tup xs)=xs.all (dok 59):=rfl
@[simp] theorem pI (xs:List D):dok 60 (.lst xs)=xs.all (dok 59):=rfl
@[simp] theorem ww (xs:List D):dok 60 (.tpn xs)=xs.all (dok 59):=rfl
@[simp] theorem dok_tup59 (xs:List D):dok 59 (.tup xs)=xs.all (dok 58):=rfl
@[simp] theorem dok_lst59 (xs:List D):dok 59 (.lst xs)=xs.all (dok 58):=rfl
@[simp] theorem dok_tpn59 (xs:List D):dok 59 (.tpn xs)=xs.all (dok 58):=rfl
@[simp] theorem dok_tup58 (xs:List D):dok 58 (.tup xs)=xs.all (dok 57):=rfl
@[simp] theorem dok_lst58 (xs:List D):dok 58 (.lst xs)=xs.all (dok 57):=rfl
@[simp] theorem dok_tpn58 (xs:List D):dok 58 (.tpn xs)=xs.all (dok 57):=rfl
/-- what stands for values of one kind -/
structure Enc {τ:Type} (k:Nat) (f:τ→D):Prop where
  dok:∀n a,k≤n→dok n (f a)=true
  peq:∀a b,peq (f a) (f b)=true↔a=b
theorem Enc.int:Enc 0 D.int:=⟨fun n a _=>AN n a,fun a b=>by simp⟩
theorem Enc.all {τ:Type} {k:Nat} {f:τ→D} (h:Enc k f):∀xs ys:List τ,c4 (xs.map f) (ys.map f)=true↔xs=ys
  | [],[]=>by simp
  | [],y::ys=>by simp
  | x::xs,[]=>by simp
  | x::xs,y::ys=>by simp[h.peq,h.all xs ys]
theorem Enc.tup {τ:Type} {k:Nat} {f:τ→D} (h:Enc k f):Enc (k+1) fun xs:List τ=>D.tup (xs.map f):=
  ⟨fun n a hn=>by
    obtain ⟨m,rfl⟩:∃m,n=m+1:=⟨n - 1,by omega⟩
    rw[AO,List.all_map,List.all_eq_true]
    exact fun x _=>h.dok m x (by omega),fun a b=>by rw[yc,h.all]⟩
theorem Enc.tpn {τ:Type} {k:Nat} {f:τ→D} (h:Enc k f):Enc (k+1) fun xs:List τ=>D.tpn (xs.map f):=
  ⟨fun n a hn=>by
    obtain ⟨m,rfl⟩:∃m,n=m+1:=⟨n - 1,by omega⟩
    rw[AQ,List.all_map,List.all_eq_true]
    exact fun x _=>h.dok m x (by omega),fun a b=>by rw[peq_pp,h.all]⟩
theorem Enc.lst {τ:Type} {k:Nat} {f:τ→D} (h:Enc k f):Enc (k+1) fun xs:List τ=>D.lst (xs.map f):=
  ⟨fun n a hn=>by
    obtain ⟨m,rfl⟩:∃m,n=m+1:=⟨n - 1,by omega⟩
    rw[AP,List.all_map,List.all_eq_true]
    exact fun x _=>h.dok m x (by omega),fun a b=>by rw[peq_ll,h.all]⟩
theorem Enc.pair {τ υ:Type} {k l:Nat} {f:τ→D} {g:υ→D} (h:Enc k f) (h':Enc l g):Enc (max k l+1) fun p:τ × υ=>D.tup [f p.1,g p.2]:=
  ⟨fun n a hn=>by
    obtain ⟨m,rfl⟩:∃m,n=m+1:=⟨n - 1,by omega⟩
    simp[h.dok m a.1 (by omega),h'.dok m a.2 (by omega)],fun a b=>by simp[h.peq,h'.peq,Prod.ext_iff]⟩
theorem ju {α:Type} {xs:List α} {i:Int} (h0:0≤i) (h1:i<xs.length):atI xs i=xs[i.toNat]?:=by
  unfold atI ixN
  simp[h0,h1]
theorem AR {α:Type} {xs:List α} {i:Nat} (h1:i<xs.length):atI xs i=xs[i]?:=by
  rw[ju (by omega) (by omega),Int.toNat_natCast]
@[simp] theorem atI_0 {α:Type} (x:α) (xs:List α):atI (x::xs) 0=some x:=by rw[ju (by omega) (by simp)]; rfl
theorem pJ {α:Type} {x:α} {xs:List α} {i:Int} (h:0<i):atI (x::xs) i=atI xs (i - 1):=by
  unfold atI ixN
  by_cases hl:i<xs.length+1
  · rw[if_pos (by omega),if_pos (by simpa using hl),if_pos (by omega),if_pos (by omega)]
    simp only[Option.bind_some]
    obtain ⟨j,rfl⟩:∃j:Nat,i=j+1:=⟨(i - 1).toNat,by omega⟩
    rw[show ((j:Int)+1).toNat=j+1 by omega,show ((j:Int)+1 - 1).toNat=j by omega]
    rfl
  · rw[if_pos (by omega),if_neg (by simpa using hl),if_pos (by omega),if_neg (by omega)]; rfl
@[simp] theorem atI_1 {α:Type} (x:α) (xs:List α):atI (x::xs) 1=atI xs 0:=pJ (by omega)
@[simp] theorem atI_2 {α:Type} (x:α) (xs:List α):atI (x::xs) 2=atI xs 1:=pJ (by omega)
@[simp] theorem atI_3 {α:Type} (x:α) (xs:List α):atI (x::xs) 3=atI xs 2:=pJ (by omega)
@[simp] theorem atI_4 {α:Type} (x:α) (xs:List α):atI (x::xs) 4=atI xs 3:=pJ (by omega)
@[simp] theorem atI_5 {α:Type} (x:α) (xs:List α):atI (x::xs) 5=atI xs 4:=pJ (by omega)
@[simp] theorem atI_6 {α:Type} (x:α) (xs:List α):atI (x::xs) 6=atI xs 5:=pJ (by omega)
@[simp] theorem fIx_tup (S:Sto) (xs:List D) (i:Int):fIx S (.tup xs) (.int i)=atI xs i:=rfl
@[simp] theorem fIx_tpn (S:Sto) (xs:List D) (i:Int):fIx S (.tpn xs) (.int i)=atI xs i:=rfl
@[simp] theorem fIx_lst (S:Sto) (xs:List D) (i:Int):fIx S (.lst xs) (.int i)=atI xs i:=rfl
@[simp] theorem fIx_ro (S:Sto) (xs:List D) (i:Int):fIx S (.ro xs) (.int i)=atI xs i:=rfl
theorem AS {S:Sto} {l:Nat} {xs:List D} (h:S[l]?=some (.lst xs)) (i:Int):fIx S (.loc l) (.int i)=atI xs i:=by simp[fIx,h]
@[simp] theorem dctOf_dct (t:Bool) (kvs:List (D × D)):dE (some (.dct t kvs))=some (t,kvs):=rfl
@[simp] theorem dctOf_fdc (t:Bool) (kvs:List (D × D)):dE (some (.fdc t kvs))=some (t,kvs):=rfl
@[simp] theorem dctOf_lst (xs:List D):dE (some (.lst xs))=none:=rfl
@[simp] theorem dctOf_none:dE none=none:=rfl
theorem nQ {S:Sto} {l:Nat} {t:Bool} {kvs:List (D × D)} (h:dE S[l]?=some (t,kvs)) (k:D):fIx S (.loc l) k=if cg t k then dD t kvs k else none:=by rcases jM h with h|h<;>simp[fIx,h]
theorem jv {S:Sto} {l:Nat} {t:Bool} {kvs:List (D × D)} (h:S[l]?=some (.dct t kvs)) (k:D):fIx S (.loc l) k=if cg t k then dD t kvs k else none:=by simp[fIx,h]
theorem uw {α:Type} {xs:List α} {i:Int} (h0:0≤i) (h1:i<xs.length):∃x∈xs,atI xs i=some x:=by
  rw[ju h0 h1,List.getElem?_eq_getElem (by omega)]
  exact ⟨_,List.getElem_mem _,rfl⟩
@[simp] theorem fLen_tup (S:Sto) (xs:List D):cx S [.tup xs]=some (.int xs.length):=rfl
@[simp] theorem fLen_tpn (S:Sto) (xs:List D):cx S [.tpn xs]=some (.int xs.length):=rfl
@[simp] theorem fLen_lst (S:Sto) (xs:List D):cx S [.lst xs]=some (.int xs.length):=rfl
@[simp] theorem fLen_ro (S:Sto) (xs:List D):cx S [.ro xs]=some (.int xs.length):=rfl
theorem jw {S:Sto} {l:Nat} {xs:List D} (h:S[l]?=some (.lst xs)):cx S [.loc l]=some (.int xs.length):=by simp[cx,h]
@[simp] theorem fInt_int (S:Sto) (i:Int):qL S [.int i]=some (.int i):=rfl
@[simp] theorem fTup_lst (S:Sto) (xs:List D):jo S [.lst xs]=some (.tpn xs):=rfl
theorem nS {S:Sto} {l:Nat} {xs:List D} (h:S[l]?=some (.lst xs)):jo S [.loc l]=some (.tpn xs):=by simp[jo,h]
@[simp] theorem fSum_ints (S:Sto) (xs:List Int):fSum S [.lst (xs.map .int)]=some (.int xs.sum):=by
  have h:qM (xs.map .int)=some xs:=by
    induction xs with
    | nil=>rfl
    | cons x xs ih=>simp[qM,ih]
  simp[fSum,h]
@[simp] theorem jW (S:Sto) (xs:List Bool):kh S [.lst (xs.map .bool)]=some (.bool (xs.all id)):=by
  have h:gO (xs.map .bool)=some xs:=by
    induction xs with
    | nil=>rfl
    | cons x xs ih=>simp[gO,ih]
  simp[kh,h]
@[simp] theorem fMax2_int (S:Sto) (i j:Int):fMax2 S [.int i,.int j]=some (.int (max i j)):=by
  unfold fMax2
  simp only[Option.some.injEq,D.int.injEq]
  split<;>omega
@[simp] theorem fMin2_int (S:Sto) (i j:Int):ot S [.int i,.int j]=some (.int (min i j)):=by
  unfold ot
  simp only[Option.some.injEq,D.int.injEq]
  split<;>omega
@[simp] theorem dTru_bool (S:Sto) (b:Bool):gG S (.bool b)=some b:=rfl
@[simp] theorem dTru_tup (S:Sto) (xs:List D):gG S (.tup xs)=some (!xs.isEmpty):=rfl
@[simp] theorem dTru_lst (S:Sto) (xs:List D):gG S (.lst xs)=some (!xs.isEmpty):=rfl
@[simp] theorem dTru_int (S:Sto) (i:Int):gG S (.int i)=some (i != 0):=rfl
@[simp] theorem iterD_tup (S:Sto) (xs:List D):bO S (.tup xs)=some (.items xs):=by simp[bO]
@[simp] theorem iterD_tpn (S:Sto) (xs:List D):bO S (.tpn xs)=some (.items xs):=by simp[bO]
@[simp] theorem iterD_lst (S:Sto) (xs:List D):bO S (.lst xs)=some (.items xs):=by simp[bO]
@[simp] theorem iterD_ro (S:Sto) (xs:List D):bO S (.ro xs)=some (.items xs):=by simp[bO]
theorem yd {α:Type} (xs:List α) (i:Nat):fX xs (some (i:Int)) none=xs.drop i:=by
  unfold fX
  rw[HT.sIx_nat,HT.sIx_none]
  by_cases h:i≤xs.length
  · rw[Nat.min_eq_left h]; exact List.take_of_length_le (by simp)
  · rw[Nat.min_eq_right (by omega),List.drop_length,List.drop_eq_nil_of_le (by omega),List.take_nil]
theorem qX {α:Type} (xs:List α) (i:Nat):fX xs none (some (i:Int))=xs.take i:=by
  unfold fX
  rw[HT.sIx_nat,HT.sIx_none,List.drop_zero,Nat.sub_zero]
  by_cases h:i≤xs.length
  · rw[Nat.min_eq_left h]
  · rw[Nat.min_eq_right (by omega),List.take_of_length_le (Nat.le_refl _),List.take_of_length_le (by omega)]
theorem ux {d:D} {xs:List D} (h:d=.tup xs∨d=.tpn xs) (lo hi:Option Int):∃d',qC d lo hi=some d'∧(d'=.tup (fX xs lo hi)∨d'=.tpn (fX xs lo hi)):=by
  rcases h with rfl|rfl
  · exact ⟨_,rfl,.inl rfl⟩
  · refine ⟨_,rfl,?_⟩
    split
    · rename_i h
      right
      congr 1
      unfold fX
      rw[h.1,h.2]
      simp
    · exact .inl rfl
@[simp] theorem fCut_lst (xs:List D) (lo hi:Option Int):qC (.lst xs) lo hi=some (.lst (fX xs lo hi)):=rfl
@[simp] theorem fCut_tup (xs:List D) (lo hi:Option Int):qC (.tup xs) lo hi=some (.tup (fX xs lo hi)):=rfl
theorem sN {τ:Type} (xs:List τ) (k:τ→Int) (v:τ→D) (n:Int):dD false (xs.map fun x=>(.int (k x),v x)) (.int n)=(xs.find? fun x=>k x == n).map v:=by
  unfold dD
  rw[List.find?_map,Option.map_map]
  congr 1
  congr 1
  funext x
  simp only[Function.comp_apply,keq,cq,Option.some.injEq,Sum.inl.injEq]
  exact (Bool.beq_eq_decide_eq _ _).symm
@[simp] theorem keyOk_int (i:Int):cg false (.int i)=true:=rfl
@[simp] theorem keyOk_str (i:Str):cg false (.str i)=true:=rfl
theorem zip_map {τ:Type} (f:τ→D):∀xs ys:List τ,fG (xs.map f) (ys.map f)=(xs.zip ys).map fun p=>D.tup [f p.1,f p.2]
  | [],ys=>by cases ys<;>rfl
  | x::xs,[]=>rfl
  | x::xs,y::ys=>by simp[fG,zip_map f xs ys]
theorem nU {τ:Type} (f:τ→D):∀(xs:List τ) (n:Nat),dz n (xs.map f)=(xs.zipIdx n).map fun p=>D.tup [.int (p.2:Nat),f p.1]
  | [],_=>rfl
  | x::xs,n=>by simp[dz,nU f xs (n+1)]
@[simp] theorem cMul_l2 (j:Int):bh 2 j=true:=by simp[bh]
@[simp] theorem cMul_r2 (j:Int):bh j 2=true:=by simp[bh]
@[simp] theorem cMul_l3 (j:Int):bh 3 j=true:=by simp[bh]
@[simp] theorem cMul_r3 (j:Int):bh j 3=true:=by simp[bh]
@[simp] theorem cMul_l5 (j:Int):bh 5 j=true:=by simp[bh]
@[simp] theorem cMul_r5 (j:Int):bh j 5=true:=by simp[bh]
@[simp] theorem cMul_l7 (j:Int):bh 7 j=true:=by simp[bh]
@[simp] theorem cMul_r7 (j:Int):bh j 7=true:=by simp[bh]
@[simp] theorem cMul_l10 (j:Int):bh 10 j=true:=by simp[bh]
@[simp] theorem cMul_r10 (j:Int):bh j 10=true:=by simp[bh]
@[simp] theorem cMul_l20 (j:Int):bh 20 j=true:=by simp[bh]
@[simp] theorem cMul_r20 (j:Int):bh j 20=true:=by simp[bh]
@[simp] theorem cMul_l30 (j:Int):bh 30 j=true:=by simp[bh]
@[simp] theorem cMul_r30 (j:Int):bh j 30=true:=by simp[bh]
@[simp] theorem cMul_l60 (j:Int):bh 60 j=true:=by simp[bh]
@[simp] theorem cMul_r60 (j:Int):bh j 60=true:=by simp[bh]
@[simp] theorem cMul_l100 (j:Int):bh 100 j=true:=by simp[bh]
@[simp] theorem cMul_r100 (j:Int):bh j 100=true:=by simp[bh]
@[simp] theorem cMul_l1440 (j:Int):bh 1440 j=true:=by simp[bh]
@[simp] theorem cMul_r1440 (j:Int):bh j 1440=true:=by simp[bh]
@[simp] theorem A1 (j:Int):bh 48271 j=true:=by simp[bh]
@[simp] theorem A3 (j:Int):bh j 48271=true:=by simp[bh]
@[simp] theorem cMod_2 (j:Int):eX j 2=true:=by simp[eX]
@[simp] theorem cMod_3 (j:Int):eX j 3=true:=by simp[eX]
@[simp] theorem cMod_4 (j:Int):eX j 4=true:=by simp[eX]
@[simp] theorem cMod_7 (j:Int):eX j 7=true:=by simp[eX]
@[simp] theorem cMod_100 (j:Int):eX j 100=true:=by simp[eX]
@[simp] theorem cMod_1440 (j:Int):eX j 1440=true:=by simp[eX]
@[simp] theorem xW (j:Int):eX j 2147483647=true:=by simp[eX]
@[simp] theorem cDiv_2 (j:Int):i8 j 2=true:=by simp[i8]
@[simp] theorem cDiv_4 (j:Int):i8 j 4=true:=by simp[i8]
@[simp] theorem cDiv_7 (j:Int):i8 j 7=true:=by simp[i8]
@[simp] theorem cDiv_100 (j:Int):i8 j 100=true:=by simp[i8]
@[simp] theorem cDiv_1440 (j:Int):i8 j 1440=true:=by simp[i8]
@[simp] theorem smallI_0:bU 0=true:=smallI_iff.mpr (by decide)
@[simp] theorem smallI_1:bU 1=true:=smallI_iff.mpr (by decide)
@[simp] theorem smallI_2:bU 2=true:=smallI_iff.mpr (by decide)
@[simp] theorem smallI_3:bU 3=true:=smallI_iff.mpr (by decide)
@[simp] theorem smallI_4:bU 4=true:=smallI_iff.mpr (by decide)
@[simp] theorem smallI_5:bU 5=true:=smallI_iff.mpr (by decide)
@[simp] theorem smallI_7:bU 7=true:=smallI_iff.mpr (by decide)
@[simp] theorem smallI_8:bU 8=true:=smallI_iff.mpr (by decide)
theorem uz {i j:Int} (h : -18446744073709551616<i∧i<18446744073709551616):bh i j=true:=by
  simp[bh,h.1,h.2]
theorem eI {i:Int} (h : -4611686018427387904≤i∧i<4611686018427387904):bU i=true:=by
  exact smallI_iff.mpr ⟨by omega,by omega⟩
@[simp] theorem set_concat {α:Type} (T:List α) (x y:α):(T++[x]).set T.length y=T++[y]:=by
  rw[List.set_append_right _ _ (Nat.le_refl _)]; simp
@[simp] theorem wipe_nil (e:En):aU e []=e:=rfl
@[simp] theorem wipe_cons (e:En) (v:Nat) (vs:List Nat):aU e (v::vs)=(aU e vs).set v none:=rfl
end DL
namespace DL
open PySem PySem.Spec PyProof.Rows L2 LamX
section
variable {N B B2:En→Sto→Prop} {R:D→Sto→Prop} {E:XV→Sto→Prop}
@[simp ↓] theorem wq_eBin (f:Sto→D→D→Option D) (ma mb:ME) (env:En) (S:Sto) {Q:D→Sto→Prop}:Res.wp (aK f ma mb env S) Q E=Res.wp ((ma env S).bind fun a S=>(mb env S).bind fun b S=>ofO S (f S a b)) Q E:=rfl
@[simp ↓] theorem wq_tOf (m:ME) (env:En) (S:Sto) {Q:Bool→Sto→Prop}:Res.wp (tOf m env S) Q E=Res.wp ((m env S).bind fun d S=>match d with
  | .bool b=>.ok b S
  | _=>.stuck) Q E:=rfl
@[simp ↓] theorem wq_pNo (x0:En) (S:Sto) {Q:Option Int→Sto→Prop}:Res.wp (pNo  x0 S) Q E=Res.wp (.ok none S) Q E:=rfl
@[simp ↓] theorem wq_pSome (m:ME) (env:En) (S:Sto) {Q:Option Int→Sto→Prop}:Res.wp (lU m env S) Q E=Res.wp ((m env S).bind fun d S=>match d with
  | .int i=>.ok (some i) S
  | _=>.stuck) Q E:=rfl
@[simp ↓] theorem wq_eCut (m:ME) (ml mh:MP) (env:En) (S:Sto) {Q:D→Sto→Prop}:Res.wp (rK m ml mh env S) Q E=Res.wp ((m env S).bind fun d S=>(ml env S).bind fun lo S=>(mh env S).bind fun hi S=>ofO S (qC (view0 S d) lo hi)) Q E:=rfl
@[simp ↓] theorem wq_eC (d:D) (x0:En) (S:Sto) {Q:D→Sto→Prop}:Res.wp (eC d x0 S) Q E=Res.wp (.ok d S) Q E:=rfl
@[simp ↓] theorem wq_eV (i:Nat) (env:En) (S:Sto) {Q:D→Sto→Prop}:Res.wp (eV i env S) Q E=Res.wp (match env[i]? with
  | some (some d)=>.ok d S
  | _=>.stuck) Q E:=rfl
@[simp ↓] theorem wq_tTru (m:ME) (env:En) (S:Sto) {Q:Bool→Sto→Prop}:Res.wp (cB m env S) Q E=Res.wp ((m env S).bind fun d S=>ofO S (gG S d)) Q E:=rfl
@[simp ↓] theorem wq_tAndM (ma mb:MT) (env:En) (S:Sto) {Q:Bool→Sto→Prop}:Res.wp (mX ma mb env S) Q E=Res.wp ((ma env S).bind fun c S=>if c=true then mb env S else .ok false S) Q E:=rfl
@[simp ↓] theorem wq_tOrM (ma mb:MT) (env:En) (S:Sto) {Q:Bool→Sto→Prop}:Res.wp (c9 ma mb env S) Q E=Res.wp ((ma env S).bind fun c S=>if c=true then .ok true S else mb env S) Q E:=rfl
@[simp ↓] theorem wq_tNotM (ma:MT) (env:En) (S:Sto) {Q:Bool→Sto→Prop}:Res.wp (bW ma env S) Q E=Res.wp ((ma env S).bind fun c S=>.ok (!c) S) Q E:=rfl
@[simp ↓] theorem wq_eAnd (ma mb:ME) (env:En) (S:Sto) {Q:D→Sto→Prop}:Res.wp (jj ma mb env S) Q E=Res.wp ((ma env S).bind fun d S=>(ofO S (gG S d)).bind fun c S=>if c=true then mb env S else .ok d S) Q E:=rfl
@[simp ↓] theorem wq_eOr (ma mb:ME) (env:En) (S:Sto) {Q:D→Sto→Prop}:Res.wp (eOr ma mb env S) Q E=Res.wp ((ma env S).bind fun d S=>(ofO S (gG S d)).bind fun c S=>if c=true then .ok d S else mb env S) Q E:=rfl
@[simp ↓] theorem wq_eNot (ma:ME) (env:En) (S:Sto) {Q:D→Sto→Prop}:Res.wp (eNot ma env S) Q E=Res.wp ((ma env S).bind fun d S=>(ofO S (gG S d)).bind fun c S=>.ok (.bool (!c)) S) Q E:=rfl
@[simp ↓] theorem wq_eIf (tc:MT) (ma mb:ME) (env:En) (S:Sto) {Q:D→Sto→Prop}:Res.wp (eIf tc ma mb env S) Q E=Res.wp ((tc env S).bind fun c S=>if c=true then ma env S else mb env S) Q E:=rfl
@[simp ↓] theorem wq_eNeg (ma:ME) (env:En) (S:Sto) {Q:D→Sto→Prop}:Res.wp (eNeg ma env S) Q E=Res.wp ((ma env S).bind fun d S=>match d with
  | .int i=>.ok (.int (-i)) S
  | _=>.stuck) Q E:=rfl
@[simp ↓] theorem wq_eChain (f g:Sto→D→D→Option D) (ma mb mc:ME) (env:En) (S:Sto) {Q:D→Sto→Prop}:Res.wp (jO f g ma mb mc env S) Q E=Res.wp ((ma env S).bind fun a S=>(mb env S).bind fun b S=>match f S a b with
  | some (.bool true)=>(mc env S).bind fun c S=>ofO S (g S b c)
  | some (.bool false)=>.ok (.bool false) S
  | _=>.stuck) Q E:=rfl
@[simp ↓] theorem wq_aNil (x0:En) (S:Sto) {Q:List D→Sto→Prop}:Res.wp (aJ  x0 S) Q E=Res.wp (.ok [] S) Q E:=rfl
@[simp ↓] theorem wq_aCons (m:ME) (r:MA) (env:En) (S:Sto) {Q:List D→Sto→Prop}:Res.wp (aC m r env S) Q E=Res.wp ((m env S).bind fun d S=>(r env S).bind fun ds S=>.ok (d::ds) S) Q E:=rfl
@[simp ↓] theorem wq_eTup (r:MA) (env:En) (S:Sto) {Q:D→Sto→Prop}:Res.wp (cZ r env S) Q E=Res.wp ((r env S).bind fun ds S=>if ds.length≤1000000 then .ok (.tup ds) S else .stuck) Q E:=rfl
@[simp ↓] theorem wq_eLst (r:MA) (env:En) (S:Sto) {Q:D→Sto→Prop}:Res.wp (dF r env S) Q E=Res.wp ((r env S).bind fun ds S=>if ds.length≤1000000 then .ok (.lst ds) S else .stuck) Q E:=rfl
@[simp ↓] theorem wq_eLstM (r:MA) (env:En) (S:Sto) {Q:D→Sto→Prop}:Res.wp (iR r env S) Q E=Res.wp ((r env S).bind fun ds S=>if ds.length≤1000000 then .ok (.loc S.length) (S++[.lst ds]) else .stuck) Q E:=rfl
@[simp ↓] theorem wq_eDct (t:Bool) (x0:En) (S:Sto) {Q:D→Sto→Prop}:Res.wp (qF t x0 S) Q E=Res.wp (.ok (.loc S.length) (S++[.dct t []])) Q E:=rfl
@[simp ↓] theorem wq_sNil (env:En) (S:Sto):RS.wp (bo  env S) N R E B B2=RS.wp (.next env S) N R E B B2:=rfl
@[simp ↓] theorem wq_sSeq (a b:MS) (env:En) (S:Sto):RS.wp (aT a b env S) N R E B B2=RS.wp ((a env S).andThen b) N R E B B2:=rfl
@[simp ↓] theorem wq_sExpr (m:ME) (env:En) (S:Sto):RS.wp (dW m env S) N R E B B2=RS.wp ((m env S).rs env fun _ S=>.next env S) N R E B B2:=rfl
@[simp ↓] theorem wq_sRet (m:ME) (env:En) (S:Sto):RS.wp (bH m env S) N R E B B2=RS.wp ((m env S).rs env fun d S=>.ret d S) N R E B B2:=rfl
@[simp ↓] theorem wq_sRetN (x0:En) (S:Sto):RS.wp (sRetN  x0 S) N R E B B2=RS.wp (.ret .none S) N R E B B2:=rfl
@[simp ↓] theorem wq_sBreak (env:En) (S:Sto):RS.wp (xh  env S) N R E B B2=RS.wp (.brk env S) N R E B B2:=rfl
@[simp ↓] theorem wq_sCont (env:En) (S:Sto):RS.wp (sCont  env S) N R E B B2=RS.wp (.cont env S) N R E B B2:=rfl
@[simp ↓] theorem wq_sStuck (x0:En) (x1:Sto):RS.wp (jP  x0 x1) N R E B B2=RS.wp (.stuck) N R E B B2:=rfl
@[simp ↓] theorem wq_eStuck (x0:En) (x1:Sto) {Q:D→Sto→Prop}:Res.wp (xi  x0 x1) Q E=Res.wp (.stuck) Q E:=rfl
@[simp ↓] theorem wq_sIf (tc:MT) (a b:MS) (env:En) (S:Sto):RS.wp (sIf tc a b env S) N R E B B2=RS.wp ((tc env S).rs env fun c S=>if c=true then a env S else b env S) N R E B B2:=rfl
@[simp ↓] theorem wq_sAsg (m:ME) (g:MG) (env:En) (S:Sto):RS.wp (gz m g env S) N R E B B2=RS.wp ((m env S).rs env fun d S=>ofG (g d env S)) N R E B B2:=rfl
@[simp ↓] theorem wq_sPar (i j:Nat) (r:MA) (env:En) (S:Sto):RS.wp (rQ i j r env S) N R E B B2=RS.wp ((r env S).rs env fun ds S=>match ds with
  | [a,b]=>.next ((env.set i (some a)).set j (some b)) S
  | _=>.stuck) N R E B B2:=rfl
@[simp ↓] theorem wq_sSet (i:Nat) (m:ME) (env:En) (S:Sto):RS.wp (bF i m env S) N R E B B2=RS.wp ((m env S).rs env fun d S=>.next (env.set i (some d)) S) N R E B B2:=rfl
@[simp ↓] theorem wq_sAug (i:Nat) (f:Sto→D→D→Option D) (m:ME) (env:En) (S:Sto):RS.wp (sAug i f m env S) N R E B B2=RS.wp (match env[i]? with
  | some (some a)=>(m env S).rs env fun b S=>match f S a b with
    | some d=>.next (env.set i (some d)) S
    | none=>.stuck
  | _=>.stuck) N R E B B2:=rfl
@[simp ↓] theorem wq_iAny (m:ME) (env:En) (S:Sto) {Q:ItD→Sto→Prop}:Res.wp (cM m env S) Q E=Res.wp ((m env S).bind fun d S=>ofO S (bO S d)) Q E:=rfl
@[simp ↓] theorem wq_iRng1D (r:MA) (env:En) (S:Sto) {Q:ItD→Sto→Prop}:Res.wp (jR r env S) Q E=Res.wp ((r env S).bind fun ds S=>match ds with
  | [.int j]=>if bU j then .ok (.items (kY 0 j.toNat)) S else .stuck
  | _=>.stuck) Q E:=rfl
@[simp ↓] theorem wq_iRng2D (r:MA) (env:En) (S:Sto) {Q:ItD→Sto→Prop}:Res.wp (kZ r env S) Q E=Res.wp ((r env S).bind fun ds S=>match ds with
  | [.int i,.int j]=>if bU i&&bU j then .ok (.items (kY i (j - i).toNat)) S else .stuck
  | _=>.stuck) Q E:=rfl
@[simp ↓] theorem wq_iEnumD (r:MA) (env:En) (S:Sto) {Q:ItD→Sto→Prop}:Res.wp (me r env S) Q E=Res.wp ((r env S).bind fun ds S=>match ds.map vt with
  | [.tup xs]=>.ok (.items (dz 0 xs)) S
  | [.lst xs]=>.ok (.items (dz 0 xs)) S
  | [.loc l]=>match S[l]? with
    | some (.lst _)=>.ok (.liveE l) S
    | _=>.stuck
  | _=>.stuck) Q E:=rfl
@[simp ↓] theorem wq_iZipD (r:MA) (env:En) (S:Sto) {Q:ItD→Sto→Prop}:Res.wp (vo r env S) Q E=Res.wp ((r env S).bind fun ds S=>match ds.map vt with
  | [.tup xs,.tup ys]=>.ok (.items (fG xs ys)) S
  | [.lst xs,.lst ys]=>.ok (.items (fG xs ys)) S
  | _=>.stuck) Q E:=rfl
@[simp ↓] theorem wq_sFor (mi:MI) (g:MG) (b:MS) (env:En) (S:Sto):RS.wp (fR mi g b env S) N R E B B2=RS.wp ((mi env S).rs env fun it S=>match it with
  | .items ds=>iT g b ds env S
  | .live l=>iE g b l (dB S l+1) 0 env S
  | .liveE l=>lW g b l (dB S l+1) 0 env S) N R E B B2:=rfl
@[simp ↓] theorem wq_compR (mi:MI) (g:MG) (tc:MT) (m:ME) (vs:List Nat) (env:En) (S:Sto) {Q:List D→Sto→Prop}:Res.wp (gN mi g tc m vs env S) Q E=Res.wp ((mi env S).bind fun it S=>match it with
  | .items ds=>c8 g tc m (aU env vs) ds [] S
  | .live l=>fP g tc m (aU env vs) l (dB S l+1) 0 [] S
  | .liveE l=>iU g tc m (aU env vs) l (dB S l+1) 0 [] S) Q E:=rfl
@[simp ↓] theorem wq_eComp (mi:MI) (g:MG) (tc:MT) (m:ME) (vs:List Nat) (env:En) (S:Sto) {Q:D→Sto→Prop}:Res.wp (b6 mi g tc m vs env S) Q E=Res.wp ((gN mi g tc m vs env S).bind fun ds S=>.ok (.lst ds) S) Q E:=rfl
@[simp ↓] theorem wq_eCompM (mi:MI) (g:MG) (tc:MT) (m:ME) (vs:List Nat) (env:En) (S:Sto) {Q:D→Sto→Prop}:Res.wp (mn mi g tc m vs env S) Q E=Res.wp ((gN mi g tc m vs env S).bind fun ds S=>.ok (.loc S.length) (S++[.lst ds])) Q E:=rfl
@[simp ↓] theorem wq_tYesM (x0:En) (S:Sto) {Q:Bool→Sto→Prop}:Res.wp (cD  x0 S) Q E=Res.wp (.ok true S) Q E:=rfl
@[simp ↓] theorem wq_chk (n:Nat) (m:MF) (ds:List D) (S:Sto) {Q:D→Sto→Prop}:Res.wp (chk n m ds S) Q E=Res.wp (if ds.length=n then m ds S else .stuck) Q E:=rfl
@[simp ↓] theorem wq_eCall (n:Nat) (m:MF) (r:MA) (env:En) (S:Sto) {Q:D→Sto→Prop}:Res.wp (aS n m r env S) Q E=Res.wp ((r env S).bind fun ds S=>chk n m ds S) Q E:=rfl
@[simp ↓] theorem wq_eMeth (cn nm:Str) (n:Nat) (m:MF) (ma:ME) (r:MA) (env:En) (S:Sto) {Q:D→Sto→Prop}:Res.wp (dG cn nm n m ma r env S) Q E=Res.wp ((ma env S).bind fun d S=>match d with
  | .loc l=>match S[l]? with
    | some (.ins C fs)=>if C=cn∧(fs.map (·.1)).contains nm=false then (r env S).bind fun ds S=>chk n m (.loc l::ds) S else .stuck
    | _=>.stuck
  | _=>.stuck) Q E:=rfl
@[simp ↓] theorem wq_eMake (cn:Str) (n:Nat) (mi:MF) (r:MA) (env:En) (S:Sto) {Q:D→Sto→Prop}:Res.wp (mt cn n mi r env S) Q E=Res.wp ((r env S).bind fun ds S=>(chk n mi (.loc S.length::ds) (S++[.ins cn []])).bind fun d S'=>match d with
  | .none=>.ok (.loc S.length) S'
  | _=>.stuck) Q E:=rfl
@[simp ↓] theorem wq_eFld (cn f:Str) (ma:ME) (env:En) (S:Sto) {Q:D→Sto→Prop}:Res.wp (du cn f ma env S) Q E=Res.wp ((ma env S).bind fun d S=>match d with
  | .loc l=>match S[l]? with
    | some (.ins C fs)=>if C=cn then ofO S (fs.lookup f) else .stuck
    | _=>.stuck
  | _=>.stuck) Q E:=rfl
@[simp ↓] theorem wq_sFldM (cn f:Str) (ma mv:ME) (env:En) (S:Sto):RS.wp (jn cn f ma mv env S) N R E B B2=RS.wp ((mv env S).rs env fun d S=>(ma env S).rs env fun o S=>match o with
  | .loc l=>match S[l]? with
    | some (.ins C fs)=>if C=cn∧fs.length<1000 then .next env (S.set l (.ins C (iK f d fs))) else .stuck
    | _=>.stuck
  | _=>.stuck) N R E B B2:=rfl
@[simp ↓] theorem wq_eB (f:BF) (r:MA) (env:En) (S:Sto) {Q:D→Sto→Prop}:Res.wp (eB f r env S) Q E=Res.wp ((r env S).bind fun ds S=>ofO S (f S ds)) Q E:=rfl
@[simp ↓] theorem wq_eM (ok:Sto→D→Bool) (f:BM) (ma:ME) (r:MA) (env:En) (S:Sto) {Q:D→Sto→Prop}:Res.wp (eM ok f ma r env S) Q E=Res.wp ((ma env S).bind fun d S=>if ok S d then (r env S).bind fun ds S=>match f S d ds with
  | some p=>.ok p.1 p.2
  | none=>.stuck else .stuck) Q E:=rfl
@[simp ↓] theorem wq_eRev (m:ME) (env:En) (S:Sto) {Q:D→Sto→Prop}:Res.wp (eRev m env S) Q E=Res.wp ((m env S).bind fun d S=>match view S d with
  | .lst xs=>.ok (.lst xs.reverse) S
  | _=>.stuck) Q E:=rfl
@[simp ↓] theorem wq_eDictP (r:MA) (env:En) (S:Sto) {Q:D→Sto→Prop}:Res.wp (qN r env S) Q E=Res.wp ((r env S).bind fun ds S=>match ds with
  | [.tpn xs]=>match eU xs with
    | some ps=>if xs.length≤1000000 then .ok (.loc S.length) (S++[.dct false (eF [] ps)]) else .stuck
    | none=>.stuck
  | _=>.stuck) Q E:=rfl
@[simp ↓] theorem wq_eDComp (mi:MI) (g:MG) (tc:MT) (mk mv:ME) (vs:List Nat) (env:En) (S:Sto) {Q:D→Sto→Prop}:Res.wp (m7 mi g tc mk mv vs env S) Q E=Res.wp ((mi env S).bind fun it S=>match it with
  | .items ds=>(fK g tc mk mv (aU env vs) ds [] S).bind kD
  | .live _=>.stuck
  | .liveE _=>.stuck) Q E:=rfl
@[simp ↓] theorem wq_sRaise (C:Str) (env:En) (S:Sto):RS.wp (m8 C env S) N R E B B2=RS.wp (.exc ⟨C,[]⟩ env S) N R E B B2:=rfl
@[simp ↓] theorem wq_eKind (hd:Hdr) (m:ME) (env:En) (S:Sto) {Q:D→Sto→Prop}:Res.wp (rp hd m env S) Q E=Res.wp (fh hd (m env S)) Q E:=rfl
@[simp ↓] theorem wq_kD (kvs:List (D × D)) (S:Sto) {Q:D→Sto→Prop}:Res.wp (kD kvs S) Q E=Res.wp (.ok (.loc S.length) (S++[.dct false kvs])) Q E:=rfl
end
end DL
namespace DL
open PySem PySem.Spec PyProof.Rows L2 LamX
def dlt (a b:D):Bool:=PySem.W.dataLt (pdF a) (pdF b)
def eJ (xs ys:List D):Bool:=PySem.W.rowLt (pdFs xs) (pdFs ys)
def alk (a b:D):Bool:=PySem.W.alike (pdF a) (pdF b)
def eK (xs ys:List D):Bool:=PySem.W.alikeAll (pdFs xs) (pdFs ys)
theorem jx (a b:D):dle a b=!dlt b a:=rfl
@[simp] theorem alk_int (i j:Int):alk (.int i) (.int j)=true:=by simp[alk,pdF,PySem.W.alike]
@[simp] theorem alk_str (i j:Str):alk (.str i) (.str j)=true:=by simp[alk,pdF,PySem.W.alike]
@[simp] theorem alk_tup (i j:List D):alk (.tup i) (.tup j)=eK i j:=by simp[alk,eK,pdF,PySem.W.alike]
@[simp] theorem alk_tpn (i j:List D):alk (.tpn i) (.tpn j)=eK i j:=by simp[alk,eK,pdF,PySem.W.alike]
@[simp] theorem alk_lst (i j:List D):alk (.lst i) (.lst j)=eK i j:=by simp[alk,eK,pdF,PySem.W.alike]
@[simp] theorem A5 (x y:D) (i j:List D):eK (x::i) (y::j)=(alk x y&&eK i j):=by simp[alk,eK,pdFs,PySem.W.alikeAll]
@[simp] theorem A6 (j:List D):eK [] j=true:=by simp[eK,pdFs,PySem.W.alikeAll]
@[simp] theorem A7 (j:List D):eK j []=true:=by cases j<;>simp[eK,pdFs,PySem.W.alikeAll]
@[simp] theorem dlt_int (i j:Int):dlt (.int i) (.int j)=decide (i<j):=by unfold dlt pdF; rw[PySem.W.dataLt_int]
@[simp] theorem dlt_str (i j:Str):dlt (.str i) (.str j)=decide (i.cps.toList<j.cps.toList):=by unfold dlt pdF; rw[PySem.W.dataLt_str]
@[simp] theorem iw (i j:List D):dlt (.tup i) (.tup j)=eJ i j:=by unfold dlt pdF; rw[PySem.W.dataLt_tuple]; rfl
@[simp] theorem dlt_tpn (i j:List D):dlt (.tpn i) (.tpn j)=eJ i j:=by unfold dlt pdF; rw[PySem.W.dataLt_tuple]; rfl
@[simp] theorem dlt_tp (i j:List D):dlt (.tup i) (.tpn j)=eJ i j:=by unfold dlt pdF; rw[PySem.W.dataLt_tuple]; rfl
@[simp] theorem dlt_pt (i j:List D):dlt (.tpn i) (.tup j)=eJ i j:=by unfold dlt pdF; rw[PySem.W.dataLt_tuple]; rfl
@[simp] theorem fu:eJ [] []=false:=by unfold eJ PySem.W.rowLt; exact lex_irrefl _
theorem iX {x y:D} (h:alk x y=true) (i j:List D):eJ (x::i) (y::j)=if peq x y=true then eJ i j else dlt x y:=by
  simp only[eJ,PySem.W.rowLt,pdFs]
  exact PySem.W.dataLt_cons h _ _
@[simp] theorem bV (x y:Int) (i j:List D):eJ (.int x::i) (.int y::j)=if x=y then eJ i j else decide (x<y):=by
  rw[iX (by simp)]; simp
@[simp] theorem dltAll_str (x y:Str) (i j:List D):eJ (.str x::i) (.str y::j)=if x=y then eJ i j else decide (x.cps.toList<y.cps.toList):=by
  rw[iX (by simp)]; simp
/-- three numbers,the lesser ahead -/
def le3 (a b:Int × Int × Int):Bool:=decide (a.1<b.1∨(a.1=b.1∧(a.2.1<b.2.1∨(a.2.1=b.2.1∧a.2.2≤b.2.2))))
def trD (t:Int × Int × Int):D:=.tup [.int t.1,.int t.2.1,.int t.2.2]
theorem ye (a b:Int × Int × Int):dle (trD a) (trD b)=le3 a b:=by
  rw[jx,trD,trD,iw,bV,bV,bV,fu,le3]
  rw[Bool.eq_iff_iff]
  by_cases h1:b.1=a.1
  · by_cases h2:b.2.1=a.2.1
    · by_cases h3:b.2.2=a.2.2
      · simp[h1,h2,h3]
      · simp[h1,h2,h3]
    · simp[h1,h2]; omega
  · simp[h1]; omega
theorem gc (a b:Int × Int × Int):(le3 a b||le3 b a)=true:=by
  simp[le3]; omega
theorem ge {a b c:Int × Int × Int} (h:le3 a b=true) (h2:le3 b c=true):le3 a c=true:=by
  simp[le3] at *; omega
/-- sorted(..) of tuples -/
theorem k9 {τ:Type} {S:Sto} {d:D} (xs:List τ) (f:τ→D) (le:τ→τ→Bool) (h:di S d=some (xs.map f)) (hk:∀x,dok 60 (f x)=true) (ha:∀x y,alk (f x) (f y)=true) (hf:∀x,∃a l,f x=.tup (a::l)) (hle:∀x y,dle (f x) (f y)=le x y) (hl:xs.length≤1000000):dP S [d]=some (.lst ((xs.mergeSort le).map f)):=by
  have h1:fJ (xs.map f)=true:=by
    unfold fJ
    simp only[Bool.and_eq_true,List.all_eq_true,List.mem_map,forall_exists_index,and_imp,forall_apply_eq_imp_iff₂,Bool.or_eq_true]
    exact ⟨⟨fun x _=>hk x,fun x _ y _=>ha x y⟩,.inl fun x _=>by obtain ⟨a,l,e⟩:=hf x; rw[e]⟩
  simp only[dP,h,h1,List.length_map,hl,and_self,if_true]
  rw[List.map_mergeSort (s:=dle) fun a _ b _=>(hle a b).symm]
@[simp] theorem sortOf_lst (S:Sto) (xs:List D):di S (.lst xs)=some xs:=rfl
theorem nV {S:Sto} {l:Nat} {xs:List D} (h:S[l]?=some (.lst xs)):di S (.loc l)=some xs:=by simp[di,h]
end DL
namespace DL
open PySem PySem.Spec PyProof.Rows L2 LamX
/-- the dict that is told by d -/
def pK (S:Sto) (d:D) (f:Nat→Bool→List (D × D)→Prop) (_:Dum f:=.mk) (_:True:=trivial):Prop:=match d with
  | .loc l=>match S[l]? with
    | some (.dct t kvs)=>f l t kvs
    | _=>False
  | _=>False
theorem wx {S:Sto} {l:Nat} {t:Bool} {kvs:List (D × D)} {f:Nat→Bool→List (D × D)→Prop} (h:S[l]?=some (.dct t kvs)):pK S (.loc l) f=f l t kvs:=by simp[pK,h]
section
variable {N B C:En→Sto→Prop} {R:D→Sto→Prop} {E:XV→Sto→Prop} {Q:D→Sto→Prop}
@[simp ↓] theorem wq_eLock (ml mb:ME) (env:En) (S:Sto):Res.wp (eLock ml mb env S) Q E=Res.wp (ml env S) (fun d _=>pK S d fun l t kvs=>Res.wp (mb env (S.set l (.fdc t kvs))) (fun d S'=>Q d (S'.set l (.dct t kvs))) NoE) NoE:=by
  unfold eLock
  cases ml env S with
  | exc _ _=>simp
  | stuck=>simp
  | ok d S1=>
    rw[eh]
    cases d<;>simp only[pK,nO]
    rename_i l
    cases S[l]? with
    | none=>simp
    | some o=>
      cases o<;>simp only[nO]
      cases mb env _<;>simp
@[simp ↓] theorem wq_sLock (ml:ME) (mb:MS) (env:En) (S:Sto):RS.wp (sC ml mb env S) N R E B C=Res.wp (ml env S) (fun d _=>pK S d fun l t kvs=>RS.wp (mb env (S.set l (.fdc t kvs))) (fun e S'=>N e (S'.set l (.dct t kvs))) (fun d S'=>R d (S'.set l (.dct t kvs))) NoE (fun e S'=>B e (S'.set l (.dct t kvs))) (fun e S'=>C e (S'.set l (.dct t kvs)))) NoE:=by
  unfold sC
  cases ml env S with
  | exc _ _=>simp
  | stuck=>simp
  | ok d S1=>
    rw[eh]
    cases d<;>simp only[pK,ky]
    rename_i l
    cases S[l]? with
    | none=>simp
    | some o=>
      cases o<;>simp only[ky]
      cases mb env _<;>simp
/-- the keys told by a function that changes nothing -/
theorem nW {τ:Type} {mk:ME} {i:Nat} {env:En} {S:Sto} {f k:τ→D}:∀(xs:List τ) (acc:List D),(∀x∈xs,mk (env.set i (some (f x))) S=.ok (k x) S)→fj mk i env (xs.map f) acc S=.ok (acc++xs.map k) S
  | [],acc,_=>by simp[fj]
  | x::xs,acc,h=>by
    rw[List.map_cons]
    unfold fj
    rw[h x List.mem_cons_self,bZ,nW xs _ fun y hy=>h y (List.mem_cons_of_mem _ hy)]
    simp
/-- a walk told by turns that change nothing -/
theorem nX {τ:Type} {T:D→List D→Sto→Res (List D)} {f:τ→D} {S:Sto} {g:τ→List D}:∀(xs:List τ) (acc:List D),(acc++xs.flatMap g).length≤1000000→(∀x∈xs,∀acc,(acc++g x).length≤1000000→T (f x) acc S=.ok (acc++g x) S)→fm T (xs.map f) acc S=.ok (acc++xs.flatMap g) S
  | [],acc,_,_=>by simp[fm]
  | x::xs,acc,hl,h=>by
    rw[List.map_cons]
    unfold fm
    rw[h x List.mem_cons_self acc (by simp at hl ⊢; omega),bZ,nX xs _ (by simpa using hl) fun y hy=>h y (List.mem_cons_of_mem _ hy)]
    simp
end
@[simp ↓] theorem sO (m:ME) (i:Nat) (mk:ME) (env:En) (S:Sto) {Q:D→Sto→Prop} {E:XV→Sto→Prop}:Res.wp (gY m i mk env S) Q E=Res.wp ((m env S).bind fun d S=>match di S d with
  | some xs=>(fj mk i env xs [] S).bindS fun ks S=>if fJ ks=true∧xs.length≤1000000 then .ok (.loc S.length) (S++[.lst (jV xs ks)]) else .stuck
  | none=>.stuck) Q E:=rfl
@[simp ↓] theorem wp_bindS {α β:Type} {r:Res β} {f:β→Sto→Res α} {Q:α→Sto→Prop} {E:XV→Sto→Prop}:Res.wp (r.bindS f) Q E=Res.wp r (fun a S=>Res.wp (f a S) Q E) NoE:=by cases r<;>simp[Res.bindS]
theorem qY {mi:MI} {g:MG} {tc:MT} {mi1:MI} {g1:MG} {tc1:MT} {m:ME} {vs vs1:List Nat} {env:En} {S S1:Sto} {ds:List D} {Q:D→Sto→Prop} {E:XV→Sto→Prop} (h:mi env S=.ok (.items ds) S1):Res.wp (nJ mi g tc mi1 g1 tc1 m vs vs1 env S) Q E=Res.wp (fm (lg g tc mi1 g1 tc1 m vs1 (aU env vs)) ds [] S1) (fun ds S=>Q (.lst ds) S) E:=by
  unfold nJ qS
  rw[h]
  show Res.wp (Res.bind (fm _ ds [] S1) _) Q E=_
  rw[AH]
  have e:(fun (ds:List D) (S:Sto)=>Res.wp (.ok (.lst ds) S) Q E)=fun ds S=>Q (.lst ds) S:=by funext ds S; rw[eh]
  exact congrArg (fun q:List D→Sto→Prop=>Res.wp (fm (lg g tc mi1 g1 tc1 m vs1 (aU env vs)) ds [] S1) q E) e
end DL
namespace DL
open PySem PySem.Spec PyProof.Rows L2 LamX
section
variable {α β:Type} {N B C:En→Sto→Prop} {R:D→Sto→Prop} {E:XV→Sto→Prop} {S:Sto} {env:En}
theorem ix {τ:Type} {g:MG} {b:MS} {f:τ→D} {l:Nat} (xs:List τ) (I:List τ→List τ→En→Sto→Prop) (keep:∀pre rest env S,pre++rest=xs→I pre rest env S→S[l]?=some (.lst (xs.map f))) (h:I [] xs env S)
    (step:∀pre x rest env S,pre++x::rest=xs→I pre (x::rest) env S→∃p,g (f x) env S=some p∧RS.wp (b p.1 p.2) (I (pre++[x]) rest) R E N (I (pre++[x]) rest))
    (fin:∀env S,I xs [] env S→N env S):RS.wp (iE g b l (dB S l+1) 0 env S) N R E B C:=by
  have hlen:dB S l=xs.length:=by
    have:=keep [] xs env S rfl h
    simp[dB,this]
  rw[hlen]
  have loop:∀(rest pre:List τ) (env:En) (S:Sto),pre++rest=xs→I pre rest env S→RS.wp (iE g b l (rest.length+1) pre.length env S) N R E B C:=by
    intro rest
    induction rest with
    | nil=>
      intro pre env S e h
      have hk:=keep pre [] env S e h
      rw[List.append_nil] at e
      unfold iE
      simp only[hk]
      rw[show (xs.map f)[pre.length]?=none by rw[←e]; simp]
      simp only[gb]
      rw[e] at h
      exact fin env S h
    | cons x rest ih=>
      intro pre env S e h
      have hk:=keep pre (x::rest) env S e h
      obtain ⟨p,e1,hb⟩:=step pre x rest env S e h
      rw[List.length_cons]
      unfold iE
      simp only[hk]
      rw[show (xs.map f)[pre.length]?=some (f x) by rw[←e]; simp]
      simp only[e1]
      have hl:(pre++[x]).length=pre.length+1:=by simp
      generalize b p.1 p.2=y at hb
      cases y with
      | next e' S'=>rw[gb] at hb; simpa only [hl] using ih (pre++[x]) e' S' (by rw[←e]; simp) hb
      | cont e' S'=>rw[jt] at hb; simpa only [hl] using ih (pre++[x]) e' S' (by rw[←e]; simp) hb
      | brk e' S'=>simpa using hb
      | ret d S'=>simpa using hb
      | exc x e' S'=>simpa using hb
      | stuck=>simpa using hb
  exact loop xs [] env S rfl h
/-- a comprehension over it,by what changes nothing -/
theorem u4 {τ:Type} {g:MG} {tc:MT} {m:ME} {w:En} {f:τ→D} {S:Sto} {l:Nat} (xs:List τ) (p:τ→Bool) (v:τ→D) (hl:xs.length≤1000000) (hS:S[l]?=some (.lst (xs.map f)))
    (hx:∀x∈xs,∃e,g (f x) w S=some (e,S)∧tc e S=.ok (p x) S∧(p x=true→m e S=.ok (v x) S)):fP g tc m w l (dB S l+1) 0 [] S=.ok ((xs.filter p).map v) S:=by
  have hlen:dB S l=xs.length:=by simp[dB,hS]
  rw[hlen]
  have loop:∀(rest pre:List τ) (acc:List D),pre++rest=xs→acc.length+rest.length≤1000000→fP g tc m w l (rest.length+1) pre.length acc S=.ok (acc++(rest.filter p).map v) S:=by
    intro rest
    induction rest with
    | nil=>
      intro pre acc e _
      rw[List.append_nil] at e
      subst e
      unfold fP
      simp only[hS]
      rw[show (pre.map f)[pre.length]?=none by simp]
      simp
    | cons x rest ih=>
      intro pre acc e hl
      obtain ⟨e',e1,e2,e3⟩:=hx x (by rw[←e]; simp)
      rw[List.length_cons] at hl ⊢
      unfold fP
      simp only[hS]
      rw[show (xs.map f)[pre.length]?=some (f x) by rw[←e]; simp]
      have hl2:(pre++[x]).length=pre.length+1:=by simp
      unfold eA
      simp only[e1,e2,bZ]
      cases hp:p x with
      | false=>
        simp only[Bool.false_eq_true,if_false,bZ]
        have:=ih (pre++[x]) acc (by rw[←e]; simp) (by omega)
        rw[hl2] at this
        rw[this]
        simp[hp]
      | true=>
        have ha:acc.length<1000000:=by omega
        simp only[if_true,e3 hp,bZ,ha]
        have:=ih (pre++[x]) (acc++[v x]) (by rw[←e]; simp) (by simp; omega)
        rw[hl2] at this
        rw[this]
        simp[hp]
  exact (loop xs [] [] rfl (by simpa using hl)).trans (by simp)
end
theorem eW {τ:Type} {g:MG} {tc:MT} {m:ME} {w:En} {f:τ→D} {S:Sto} {l:Nat} {Q:List D→Sto→Prop} {E:XV→Sto→Prop} (xs:List τ) (p:τ→Bool) (v:τ→D) (hl:xs.length≤1000000) (hS:S[l]?=some (.lst (xs.map f)))
    (hx:∀x∈xs,∃e,g (f x) w S=some (e,S)∧tc e S=.ok (p x) S∧(p x=true→m e S=.ok (v x) S)) (q:Q ((xs.filter p).map v) S):Res.wp (fP g tc m w l (dB S l+1) 0 [] S) Q E:=by
  rw[u4 xs p v hl hS hx,eh]; exact q
section
variable {Q:D→Sto→Prop} {E:XV→Sto→Prop}
@[simp ↓] theorem wq_eGet (md mk mz:ME) (env:En) (S:Sto):Res.wp (eGet md mk mz env S) Q E=Res.wp ((md env S).bind fun d S=>if isD S d=true then (mk env S).bind fun k S=>(mz env S).bind fun z S=>ofO S (yO S d k z) else .stuck) Q E:=rfl
@[simp] theorem eGet_at (md mk mz:ME) (env:En) (S:Sto):eGet md mk mz env S=((md env S).bind fun d S=>if isD S d=true then (mk env S).bind fun k S=>(mz env S).bind fun z S=>ofO S (yO S d k z) else .stuck):=rfl
/-- what setdefault does at last -/
def kSetd (l:Nat) (k z:D) (S:Sto):Res D:=match S[l]? with
    | some (.dct false kvs)=>if cg false k=true∧kvs.length<1000000 then (match dD false kvs k with
      | some v=>.ok v S
      | none=>.ok z (S.set l (.dct false (g5 false kvs k z)))) else .stuck
    | _=>.stuck
def yf (d k z:D) (S:Sto):Res D:=match d with
  | .loc l=>kSetd l k z S
  | _=>.stuck
@[simp] theorem kSetD_loc (l:Nat) (k z:D) (S:Sto):yf (.loc l) k z S=kSetd l k z S:=rfl
theorem yg (md mk mz:ME) (env:En) (S:Sto):eSetd md mk mz env S=((md env S).bind fun d S=>if isD S d=true then (mk env S).bind fun k S=>(mz env S).bind fun z S=>yf d k z S else .stuck):=rfl
@[simp ↓] theorem wq_eSetd (md mk mz:ME) (env:En) (S:Sto):Res.wp (eSetd md mk mz env S) Q E=Res.wp ((md env S).bind fun d S=>if isD S d=true then (mk env S).bind fun k S=>(mz env S).bind fun z S=>yf d k z S else .stuck) Q E:=by rw[yg]
@[simp ↓] theorem wq_eCallD (n:Nat) (d:D) (m:MF) (r:MA) (env:En) (S:Sto):Res.wp (yP n d m r env S) Q E=Res.wp ((r env S).bind fun ds S=>chk n m (ds++[d]) S) Q E:=rfl
@[simp ↓] theorem wq_eCallK (n k:Nat) (m:MF) (r rk:MA) (env:En) (S:Sto):Res.wp (yQ n k m r rk env S) Q E=Res.wp ((r env S).bind fun ds S=>(rk env S).bind fun zs S=>if ds.length=k then chk n m (ds++zs) S else .stuck) Q E:=rfl
@[simp] theorem eCallD_at (n:Nat) (d:D) (m:MF) (r:MA) (env:En) (S:Sto):yP n d m r env S=((r env S).bind fun ds S=>chk n m (ds++[d]) S):=rfl
@[simp] theorem eCallK_at (n k:Nat) (m:MF) (r rk:MA) (env:En) (S:Sto):yQ n k m r rk env S=((r env S).bind fun ds S=>(rk env S).bind fun zs S=>if ds.length=k then chk n m (ds++zs) S else .stuck):=rfl
end
@[simp] theorem sPar3_at (i j l:Nat) (r:MA) (env:En) (S:Sto):sPar3 i j l r env S=(r env S).rs env fun ds S=>match ds with
  | [a,b,c]=>.next (((env.set i (some a)).set j (some b)).set l (some c)) S
  | _=>.stuck:=rfl
@[simp ↓] theorem wq_sPar3 (i j l:Nat) (r:MA) (env:En) (S:Sto) {N B C:En→Sto→Prop} {R:D→Sto→Prop} {E:XV→Sto→Prop}:RS.wp (sPar3 i j l r env S) N R E B C=RS.wp ((r env S).rs env fun ds S=>match ds with
  | [a,b,c]=>.next (((env.set i (some a)).set j (some b)).set l (some c)) S
  | _=>.stuck) N R E B C:=rfl
@[simp] theorem isD_loc (S:Sto) (l:Nat):isD S (.loc l)=(dE S[l]?).isSome:=rfl
theorem set_at {α:Type} (S X:List α) (k:Nat) (v:α):(S++X).set (S.length+k) v=S++X.set k v:=by
  rw[List.set_append_right _ _ (by omega)]
  congr 2; omega
theorem wF {α:Type} (S X:List α) (v:α):(S++X).set S.length v=S++X.set 0 v:=set_at S X 0 v
end DL
namespace DL
open PySem PySem.Spec PyProof.Rows L2
section
variable {N:En→Sto→Prop} {R:D→Sto→Prop} {E:XV→Sto→Prop} {B B2:En→Sto→Prop}
@[simp] theorem sRaiseF_at (C:Str) (ns:List Str) (r:MA) (env:En) (S:Sto):fS C ns r env S=(r env S).rs env fun ds S=>if ds.length=ns.length∧ns≠[]∧ns.length≤1000 then .exc ⟨C,(ns.zip ds).reverse⟩ env S else .stuck:=rfl
@[simp ↓] theorem wq_sRaiseF (C:Str) (ns:List Str) (r:MA) (env:En) (S:Sto):RS.wp (fS C ns r env S) N R E B B2=RS.wp ((r env S).rs env fun ds S=>if ds.length=ns.length∧ns≠[]∧ns.length≤1000 then .exc ⟨C,(ns.zip ds).reverse⟩ env S else .stuck) N R E B B2:=rfl
@[simp] theorem eMakeK_at (cn:Str) (n k:Nat) (mi:MF) (r rk:MA) (env:En) (S:Sto):yb cn n k mi r rk env S=(r env S).bind fun ds S=>(rk env S).bind fun zs S=>if ds.length+1=k then (chk n mi (.loc S.length::(ds++zs)) (S++[.ins cn []])).bind (fun d S'=>match d with
  | .none=>.ok (.loc S.length) S'
  | _=>.stuck) else .stuck:=rfl
@[simp ↓] theorem wq_eMakeK (cn:Str) (n k:Nat) (mi:MF) (r rk:MA) (env:En) (S:Sto) {Q:D→Sto→Prop}:Res.wp (yb cn n k mi r rk env S) Q E=Res.wp ((r env S).bind fun ds S=>(rk env S).bind fun zs S=>if ds.length+1=k then (chk n mi (.loc S.length::(ds++zs)) (S++[.ins cn []])).bind (fun d S'=>match d with
  | .none=>.ok (.loc S.length) S'
  | _=>.stuck) else .stuck) Q E:=rfl
end
end DL
namespace DL
open PySem PySem.Spec PyProof.Rows L2
def sP (cn f:Str) (op:Sto→D→D→Option D) (ma mv:ME):MS:=fun env S=>(ma env S).rs env fun o S=>match o with
  | .loc l=>match S[l]? with
    | some (.ins C fs)=>if C=cn then match fs.lookup f with
        | some a=>(mv env S).rs env fun b S=>match op S a b with
          | some d=>match S[l]? with
            | some (.ins C' fs')=>if C'=cn∧fs'.length<1000 then .next env (S.set l (.ins C' (iK f d fs'))) else .stuck
            | _=>.stuck
          | none=>.stuck
        | none=>.stuck
      else .stuck
    | _=>.stuck
  | _=>.stuck
def sQ (op:Sto→D→D→Option D) (mo mi mv:ME):MS:=fun env S=>(mo env S).rs env fun o S=>match o with
  | .loc l=>(mi env S).rs env fun i S=>match fIx S (.loc l) i with
    | some a=>(mv env S).rs env fun b S=>match op S a b with
      | some d=>match bY S (.loc l) i d with
        | some S'=>.next env S'
        | none=>.stuck
      | none=>.stuck
    | none=>.stuck
  | _=>.stuck
def fMax3 (_:Sto) (ds:List D):Option D:=match ds with
  | [.int i,.int j,.int k]=>some (.int (if j>i then (if k>j then k else j) else (if k>i then k else i)))
  | _=>none
@[simp] theorem fMax3_int (S:Sto) (i j k:Int):fMax3 S [.int i,.int j,.int k]=some (.int (max (max i j) k)):=by
  unfold fMax3
  simp only[Option.some.injEq,D.int.injEq]
  split<;>split<;>omega
end DL
namespace DL
open PySem PySem.Spec PyProof.Rows L2
def pL (m:ME):ME:=fun env S=>(m env S).bind fun d S=>match d with
  | .loc l=>match S[l]? with
    | some (.dct false kvs)=>.ok (.lst (kvs.map (·.2))) S
    | _=>.stuck
  | _=>.stuck
end DL
namespace DL
open PySem PySem.Spec PyProof.Rows L2
/-- the unlike ones of the first texts -/
def unl:List Str→List Str
  | []=>[]
  | x::r=>if x∈r then unl r else x::unl r
/-- how many unlike ones stand in the first i -/
def cntU (xs:List Str) (i:Nat):Nat:=(unl (xs.take i).reverse).length
/-- the texts of a list -/
def jX:List D→Option (List Str)
  | []=>some []
  | .str z::r=>(jX r).map (z::·)
  | _=>none
theorem nY:∀xs:List Str,jX (xs.map D.str)=some xs
  | []=>rfl
  | x::r=>by rw[List.map_cons,jX,nY r]; rfl
def wG (m:ME):ME:=fun env S=>(m env S).bind fun d S=>match view S d with
  | .lst ds=>match jX ds with
    | some xs=>if xs.length≤100 then .ok (.int (cntU xs xs.length:Nat)) S else .stuck
    | none=>.stuck
  | _=>.stuck
end DL
namespace DL
open PySem PySem.Spec PyProof.Rows L2
end DL
namespace DL
open PySem PySem.Spec PyProof.Rows L2
def pO (p:D × D):D:=.tup [p.1,p.2]
def iItmD (m:ME):MI:=fun env S=>(m env S).bind fun d S=>match d with
  | .loc l=>match S[l]? with
    | some (.dct true kvs)=>.ok (.items (kvs.map pO)) (S.set l (.fdc true kvs))
    | some (.fdc false kvs)=>.ok (.items (kvs.map pO)) S
    | _=>.stuck
  | _=>.stuck
end DL
namespace DL
open PySem PySem.Spec PyProof.Rows L2
def yh (cn:Str) (n:Nat) (z:D) (mi:MF) (r:MA):ME:=fun env S=>(r env S).bind fun ds S=>(chk n mi (.loc S.length::(ds++[z])) (S++[.ins cn []])).bind fun d S'=>match d with
  | .none=>.ok (.loc S.length) S'
  | _=>.stuck
end DL
namespace DL
open PySem PySem.Spec PyProof.Rows L2
end DL
namespace DL
open PySem PySem.Spec PyProof.Rows L2 LamX PySem.W
end DL
namespace DL
open PySem PySem.Spec PyProof.Rows L2
def leS (a b:Str):Bool:=!decide (b.cps.toList<a.cps.toList)
def pP (S:Sto) (ds:List D):Option D:=match ds with
  | [.loc l]=>match dE S[l]? with
    | some (false,kvs)=>match jX (kvs.map (·.1)) with
      | some ks=>if ks.length<64 then some (.lst ((ks.mergeSort leS).map .str)) else none
      | none=>none
    | _=>none
  | _=>none
@[simp] theorem AT {S:Sto} {l:Nat} {kvs:List (D × D)} {ks:List Str} (h:dE S[l]?=some (false,kvs)) (hk:kvs.map (·.1)=ks.map D.str) (hl:ks.length<64):pP S [.loc l]=some (.lst ((ks.mergeSort leS).map .str)):=by
  unfold pP
  simp only[h,hk,nY,if_pos hl]
end DL
namespace DL
open PySem PySem.Spec PyProof.Rows L2
def eDictC (r:MA):ME:=fun env S=>(r env S).bind fun ds S=>match ds with
  | [.loc l]=>match dE S[l]? with
    | some (false,kvs)=>.ok (.loc S.length) (S++[.dct false kvs])
    | _=>.stuck
  | _=>.stuck
variable {Q:D→Sto→Prop} {E:XV→Sto→Prop}
@[simp] theorem eDictC_at (r:MA) (env:En) (S:Sto):eDictC r env S=(r env S).bind fun ds S=>match ds with
  | [.loc l]=>match dE S[l]? with
    | some (false,kvs)=>.ok (.loc S.length) (S++[.dct false kvs])
    | _=>.stuck
  | _=>.stuck:=rfl
end DL
namespace DL
open PySem PySem.Spec PyProof.Rows L2
end DL
namespace DL
open PySem PySem.Spec PyProof.Rows L2
def eDictL (r:MA):ME:=fun env S=>(r env S).bind fun ds S=>match ds with
  | [.lst xs]=>match eU xs with
    | some ps=>if xs.length≤1000000 then .ok (.loc S.length) (S++[.dct false (eF [] ps)]) else .stuck
    | none=>.stuck
  | _=>.stuck
@[simp] theorem eDictL_at (r:MA) (env:En) (S:Sto):eDictL r env S=(r env S).bind fun ds S=>match ds with
  | [.lst xs]=>match eU xs with
    | some ps=>if xs.length≤1000000 then .ok (.loc S.length) (S++[.dct false (eF [] ps)]) else .stuck
    | none=>.stuck
  | _=>.stuck:=rfl
end DL
namespace DL
open PySem PySem.Spec PyProof.Rows L2
section
variable {N:En→Sto→Prop} {R:D→Sto→Prop} {E:XV→Sto→Prop} {B B2:En→Sto→Prop} {Q:D→Sto→Prop}
@[simp] theorem A8 (cn f:Str) (op:Sto→D→D→Option D) (ma mv:ME) (env:En) (S:Sto):sP cn f op ma mv env S=(ma env S).rs env fun o S=>match o with
  | .loc l=>match S[l]? with
    | some (.ins C fs)=>if C=cn then match fs.lookup f with
        | some a=>(mv env S).rs env fun b S=>match op S a b with
          | some d=>match S[l]? with
            | some (.ins C' fs')=>if C'=cn∧fs'.length<1000 then .next env (S.set l (.ins C' (iK f d fs'))) else .stuck
            | _=>.stuck
          | none=>.stuck
        | none=>.stuck
      else .stuck
    | _=>.stuck
  | _=>.stuck:=rfl
@[simp ↓] theorem A9 (cn f:Str) (op:Sto→D→D→Option D) (ma mv:ME) (env:En) (S:Sto):RS.wp (sP cn f op ma mv env S) N R E B B2=RS.wp ((ma env S).rs env fun o S=>match o with
  | .loc l=>match S[l]? with
    | some (.ins C fs)=>if C=cn then match fs.lookup f with
        | some a=>(mv env S).rs env fun b S=>match op S a b with
          | some d=>match S[l]? with
            | some (.ins C' fs')=>if C'=cn∧fs'.length<1000 then .next env (S.set l (.ins C' (iK f d fs'))) else .stuck
            | _=>.stuck
          | none=>.stuck
        | none=>.stuck
      else .stuck
    | _=>.stuck
  | _=>.stuck) N R E B B2:=rfl
@[simp] theorem BA (op:Sto→D→D→Option D) (mo mi mv:ME) (env:En) (S:Sto):sQ op mo mi mv env S=(mo env S).rs env fun o S=>match o with
  | .loc l=>(mi env S).rs env fun i S=>match fIx S (.loc l) i with
    | some a=>(mv env S).rs env fun b S=>match op S a b with
      | some d=>match bY S (.loc l) i d with
        | some S'=>.next env S'
        | none=>.stuck
      | none=>.stuck
    | none=>.stuck
  | _=>.stuck:=rfl
@[simp ↓] theorem BB (op:Sto→D→D→Option D) (mo mi mv:ME) (env:En) (S:Sto):RS.wp (sQ op mo mi mv env S) N R E B B2=RS.wp ((mo env S).rs env fun o S=>match o with
  | .loc l=>(mi env S).rs env fun i S=>match fIx S (.loc l) i with
    | some a=>(mv env S).rs env fun b S=>match op S a b with
      | some d=>match bY S (.loc l) i d with
        | some S'=>.next env S'
        | none=>.stuck
      | none=>.stuck
    | none=>.stuck
  | _=>.stuck) N R E B B2:=rfl
@[simp] theorem AU (m:ME) (env:En) (S:Sto):pL m env S=(m env S).bind fun d S=>match d with
  | .loc l=>match S[l]? with
    | some (.dct false kvs)=>.ok (.lst (kvs.map (·.2))) S
    | _=>.stuck
  | _=>.stuck:=rfl
@[simp ↓] theorem AV (m:ME) (env:En) (S:Sto):Res.wp (pL m env S) Q E=Res.wp ((m env S).bind fun d S=>match d with
  | .loc l=>match S[l]? with
    | some (.dct false kvs)=>.ok (.lst (kvs.map (·.2))) S
    | _=>.stuck
  | _=>.stuck) Q E:=rfl
@[simp] theorem eLenSet_at (m:ME) (env:En) (S:Sto):wG m env S=(m env S).bind fun d S=>match view S d with
  | .lst ds=>match jX ds with
    | some xs=>if xs.length≤100 then .ok (.int (cntU xs xs.length:Nat)) S else .stuck
    | none=>.stuck
  | _=>.stuck:=rfl
@[simp ↓] theorem wq_eLenSet (m:ME) (env:En) (S:Sto):Res.wp (wG m env S) Q E=Res.wp ((m env S).bind fun d S=>match view S d with
  | .lst ds=>match jX ds with
    | some xs=>if xs.length≤100 then .ok (.int (cntU xs xs.length:Nat)) S else .stuck
    | none=>.stuck
  | _=>.stuck) Q E:=rfl
@[simp] theorem iItmD_at (m:ME) (env:En) (S:Sto):iItmD m env S=(m env S).bind fun d S=>match d with
  | .loc l=>match S[l]? with
    | some (.dct true kvs)=>.ok (.items (kvs.map pO)) (S.set l (.fdc true kvs))
    | some (.fdc false kvs)=>.ok (.items (kvs.map pO)) S
    | _=>.stuck
  | _=>.stuck:=rfl
@[simp ↓] theorem wq_iItmD (m:ME) (env:En) (S:Sto) {Q:ItD→Sto→Prop}:Res.wp (iItmD m env S) Q E=Res.wp ((m env S).bind fun d S=>match d with
  | .loc l=>match S[l]? with
    | some (.dct true kvs)=>.ok (.items (kvs.map pO)) (S.set l (.fdc true kvs))
    | some (.fdc false kvs)=>.ok (.items (kvs.map pO)) S
    | _=>.stuck
  | _=>.stuck) Q E:=rfl
@[simp] theorem eMakeD_at (cn:Str) (n:Nat) (z:D) (mi:MF) (r:MA) (env:En) (S:Sto):yh cn n z mi r env S=(r env S).bind fun ds S=>(chk n mi (.loc S.length::(ds++[z])) (S++[.ins cn []])).bind fun d S'=>match d with
  | .none=>.ok (.loc S.length) S'
  | _=>.stuck:=rfl
@[simp ↓] theorem wq_eMakeD (cn:Str) (n:Nat) (z:D) (mi:MF) (r:MA) (env:En) (S:Sto):Res.wp (yh cn n z mi r env S) Q E=Res.wp ((r env S).bind fun ds S=>(chk n mi (.loc S.length::(ds++[z])) (S++[.ins cn []])).bind fun d S'=>match d with
  | .none=>.ok (.loc S.length) S'
  | _=>.stuck) Q E:=rfl
end
end DL
namespace DL
open PySem PySem.Spec PyProof.Rows L2 LamX
/-- a list,told by itself or as it stands in the store -/
def LV (S:Sto) (v:D) (xs:List D):Prop:=v=.lst xs∨∃l,v=.loc l∧S[l]?=some (.lst xs)
section
variable {S:Sto} {v:D} {xs:List D}
theorem LV.lst:LV S (.lst xs) xs:=.inl rfl
theorem LV.loc {l:Nat} (h:S[l]?=some (.lst xs)):LV S (.loc l) xs:=.inr ⟨l,rfl,h⟩
theorem LV.app (h:LV S v xs) (U:Sto):LV (S++U) v xs:=by
  rcases h with h|⟨l,h,e⟩
  · exact .inl h
  · exact .inr ⟨l,h,by rw[List.getElem?_append_left (List.getElem?_eq_some_iff.mp e).1]; exact e⟩
theorem LV.view0 (h:LV S v xs):view0 S v=.lst xs:=by
  rcases h with rfl|⟨l,rfl,e⟩
  · rfl
  · simp[e]
theorem LV.view (h:LV S v xs):view S v=.lst xs:=by
  unfold DL.view
  rw[h.view0]; rfl
theorem LV.len (h:LV S v xs):cx S [v]=some (.int xs.length):=by
  rcases h with rfl|⟨l,rfl,e⟩
  · rfl
  · exact jw e
theorem LV.ty (h:LV S v xs):g4 S v=some "list":=by
  rcases h with rfl|⟨l,rfl,e⟩
  · rfl
  · simp[g4,e]
end
end DL
namespace DL
open PySem PySem.Spec PyProof.Rows L2
section
variable {X:Cx} {W:WX} {e o:Expr} {es:List Expr} {pos apos:Pos} {k:Nat}
/-- an attribute as a target -/
def gFld (cn g:Str) (mo:ME):MG:=fun v env S=>match mo env S with
  | .ok (.loc l) S1=>match S1[l]? with
    | some (.ins C fs)=>if C=cn∧fs.length<1000 then some (env,S1.set l (.ins C (iK g v fs))) else none
    | _=>none
  | _=>none
end
end DL
namespace DL
open PySem PySem.Spec PyProof.Rows L2
end DL
namespace DL
open PySem PySem.Spec PyProof.Rows L2
end DL
namespace DL
open PySem PySem.Spec PyProof.Rows L2
end DL
namespace DL
open PySem PySem.Spec PyProof.Rows L2
def eKdIn (neg:Bool) (tbl:List (Str × Int)) (m:ME):ME:=fun env S=>(m env S).bind fun d S=>match d with
  | .str x=>.ok (.bool (if neg then !(tbl.map (·.1)).contains x else (tbl.map (·.1)).contains x)) S
  | _=>.stuck
def eKdIx (tbl:List (Str × Int)) (m:ME):ME:=fun env S=>(m env S).bind fun d S=>match d with
  | .str x=>ofO S ((tbl.lookup x).map .int)
  | _=>.stuck
end DL
namespace DL
open PySem PySem.Spec PyProof.Rows L2
def hM:Nat:=2 ^ 64
def hP1:Nat:=11400714785074694791
def hP2:Nat:=14029467366897019727
def hP5:Nat:=2870177450012600261
def hQ2:Nat:=839798700976720815
def hC:Nat:=2870177450013471924
def hRot (x:Nat):Nat:=x*2 ^ 31 % hM+x / 2 ^ 33
def hF (a:Nat):Nat:=hRot ((hP5+a*hP2) % hM)*hP1 % hM
def hG (a:Nat):Nat:=hF a*hQ2 % hM
def hU (a b:Nat):Nat:=(hF a+b*hP2) % hM
def hZ (a b:Nat):Nat:=(hRot (hU a b)*hP1 % hM+hC) % hM
def u5 (r:Int × Int):Bool:=decide (0≤r.1)&&decide (r.1<61)&&decide (0≤r.2)&&decide (r.2<10000)
end DL
namespace DL
open PySem PySem.Spec PyProof.Rows L2
/-- dict(d),a copy of a dict of rides -/
def wH (r:MA):ME:=fun env S=>(r env S).bind fun ds S=>match ds with
  | [.loc l]=>match dE S[l]? with
    | some (true,kvs)=>if (kvs.all fun p=>match p.1 with
      | .tup [.int x,.int y]=>u5 (x,y)
      | _=>false)=true then .ok (.loc S.length) (S++[.dct true kvs]) else .stuck
    | _=>.stuck
  | _=>.stuck
@[simp] theorem eDictCT_at (r:MA) (env:En) (S:Sto):wH r env S=(r env S).bind fun ds S=>match ds with
  | [.loc l]=>match dE S[l]? with
    | some (true,kvs)=>if (kvs.all fun p=>match p.1 with
      | .tup [.int x,.int y]=>u5 (x,y)
      | _=>false)=true then .ok (.loc S.length) (S++[.dct true kvs]) else .stuck
    | _=>.stuck
  | _=>.stuck:=rfl
end DL
namespace DL
open PySem PySem.Spec PyProof.Rows L2
section
variable {X:Cx} {W:WX} {e tg iter elt:Expr} {pos:Pos} {g:MG} {m:ME} {mi:MI} {tc:MT} {vs:List Nat}
/-- a turn's reading -/
theorem nZ {Z:Res (List D)→Prop} {vs:List Nat} {σ:L2.St} {w:En} {p:Addr} {μ2:Mu} {H2:Hp} {S2:Sto} {d:D} {x:V} {acc:List D} {us:List V} {N:Hp→Prop} {f:List D→Sto→Res (List D)}
    (re:RelE X.K X.mg μ2 H2 w (L2.wipe σ vs)) (rs:RelS X.K X.mg μ2 H2 S2) (hp:H2 p=some (.lst us)) (np:p∈μ2.h) (ra:RepAll X.K X.mg μ2 H2 acc us) (rx:Rep X.K X.mg μ2 H2 d x)
    (hz:¬Z .stuck) (o:Z ((eA g tc m w d acc S2).bindS f))
    (hN:∀μ3 H3 S3 acc' us',StP p μ2 H2 μ3 H3→RelS X.K X.mg μ3 H3 S3→H3 p=some (.lst us')→RepAll X.K X.mg μ3 H3 acc' us'→Z (f acc' S3)→N H3) :
    tGc X vs g x (L2.wipe σ vs) H2 fun σ2 H3=>L2.wipe σ2 vs=L2.wipe σ vs∧tT X W0 tc σ2 H3 fun b H4=>if b=true then tE X W0 m σ2 H4 fun y H5=>∃acc,H5 p=some (.lst acc)∧acc.length<sizeLine∧N (upd H5 p (.lst (acc++[y]))) else N H4:=by
  refine ⟨w,S2,μ2,d,⟨re,rs⟩,rx,?_⟩
  unfold eA at o
  cases hg:g d w S2 with
  | none=>simp only[hg,Res.bindS] at o; exact (hz o).elim
  | some q=>
    obtain ⟨e,Se⟩:=q
    simp only[hg] at o
    intro μ3 H3 σ3 st3 re3 rs3 hw
    refine ⟨hw.trans (fU vs vs σ fun i hi=>hi),e,Se,μ3,⟨re3,rs3⟩,?_⟩
    have hp3:H3 p=some (.lst us):=st3.hk _ _ np hp
    have np3:p∈μ3.h:=by rw[st3.hid]; exact np
    have ra3:=RepAll.step st3 _ _ ra
    cases htc:tc e Se with
    | exc a b=>simp only[htc,Res.bindS] at o; exact (hz o).elim
    | stuck=>simp only[htc,Res.bindS] at o; exact (hz o).elim
    | ok c S4=>
      simp only[htc,Res.bindS] at o
      intro μ4 H4 b st4 rs4 hb
      subst hb
      have hp4:=st4.hk _ _ np3 hp3
      have np4:p∈μ4.h:=by rw[st4.hid]; exact np3
      have ra4:=RepAll.step st4 _ _ ra3
      cases b with
      | false=>
        simp only[Bool.false_eq_true,if_false] at o ⊢
        exact hN μ4 H4 S4 acc us (.of (st3.trans st4)) rs4 hp4 ra4 o
      | true=>
        simp only[if_true] at o ⊢
        refine ⟨e,S4,μ4,⟨re3.step st4,rs4⟩,?_⟩
        cases hm:m e S4 with
        | exc a b=>simp only[hm,Res.bindS] at o; exact (hz o).elim
        | stuck=>simp only[hm,Res.bindS] at o; exact (hz o).elim
        | ok v S5=>
          simp only[hm,Res.bindS] at o
          intro μ5 H5 y st5 rs5 ry
          have hp5:=st5.hk _ _ np4 hp4
          have np5:p∈μ5.h:=by rw[st5.hid]; exact np4
          have ra5:=RepAll.step st5 _ _ ra4
          by_cases hl:acc.length<1000000
          · simp only[hl,if_true] at o
            have sw:StP p μ5 H5 μ5 (upd H5 p (.lst (us++[y]))):=.write np5 (.of hp5)
            refine ⟨us,hp5,?_,?_⟩
            · rw[←ra.length,sizeLine_eq]; omega
            · exact hN μ5 _ S5 (acc++[v]) (us++[y]) ((StP.of ((st3.trans st4).trans st5)).trans sw) (rs5.write_hid np5) upd_same
                (RepAll.stp sw.toStp _ _ (ra5.append (.cons ry .nil))) o
          · simp only[hl,if_false] at o; exact (hz o).elim
def yi (g:MG) (tc:MT) (m:ME) (w:En) (it:ItD) (S:Sto):Res (List D):=match it with
  | .items ds=>c8 g tc m w ds [] S
  | .live l=>fP g tc m w l (dB S l+1) 0 [] S
  | .liveE l=>iU g tc m w l (dB S l+1) 0 [] S
theorem AW {F:List D→Sto→Res D} {vs:List Nat} {σ:L2.St} {H:Hp} {Q:VK} {W:WX} {env:En} {S:Sto} {μ:Mu} (rl:Rl X.K X.mg μ H env σ S) (o:Out X.K X.mg W σ μ H (fun μ H a b=>Rep X.K X.mg μ H a b) Q ((gN mi g tc m vs env S).bind F))
    (hfin:∀(μ1:Mu) (H1:Hp) (S1:Sto) (p:Addr) (μ2:Mu) (H2:Hp) (S2:Sto) (acc:List D) (us:List V),RelS X.K X.mg μ1 H1 S1→H1 p=none→StP p (μ1.hide p) (upd H1 p (.lst [])) μ2 H2→RelS X.K X.mg μ2 H2 S2→H2 p=some (.lst us)→RepAll X.K X.mg μ2 H2 acc us→Out X.K X.mg W σ μ1 H1 (fun μ H a b=>Rep X.K X.mg μ H a b) Q (F acc S2)→Q (.ref p) H2) :
    tLc (tI X W mi) (tGc X vs g) (tT X W0 tc) (tE X W0 m) vs σ H Q:=by
  have o2:Out X.K X.mg W σ μ H (fun μ H a b=>Rep X.K X.mg μ H a b) Q ((mi env S).bind fun it S=>(yi g tc m (aU env vs) it S).bind F):=by
    unfold gN at o
    cases hmi:mi env S with
    | ok a S1=>
      rw[hmi] at o
      cases a<;>exact o
    | exc a S1=>rw[hmi] at o; exact o
    | stuck=>rw[hmi] at o; exact o
  refine ⟨env,S,μ,rl,(Out.bind o2).mono fun J H1 ⟨μ1,S1,it,st,rs,rd,o1⟩ p hp=>?_⟩
  clear o o2
  obtain ⟨Z,hZ⟩:∃Z:Res (List D)→Prop,Z=fun r=>Out X.K X.mg W σ μ1 H1 (fun μ H a b=>Rep X.K X.mg μ H a b) Q (r.bind F):=⟨_,rfl⟩
  have o1:Z (yi g tc m (aU env vs) it S1):=by rw[hZ]; exact o1
  have rw1:RelE X.K X.mg μ1 H1 (aU env vs) (L2.wipe σ vs):=(rl.env.step st).wipe vs
  generalize aU env vs=w at *
  -- where it begins
  have sh:Stp μ1 H1 (μ1.hide p) (upd H1 p (.lst [])):=.new_hid hp
  have hz:¬Z .stuck:=fun z=>by rw[hZ] at z; exact z
  have fin:∀(μ2:Mu) (H2:Hp) (S2:Sto) (acc:List D) (us:List V),StP p (μ1.hide p) (upd H1 p (.lst [])) μ2 H2→RelS X.K X.mg μ2 H2 S2→H2 p=some (.lst us)→RepAll X.K X.mg μ2 H2 acc us→Z (.ok acc S2)→Q (.ref p) H2:=by
    intro μ2 H2 S2 acc us sp rs2 hp2 ra o
    rw[hZ] at o
    exact hfin μ1 H1 S1 p μ2 H2 S2 acc us rs hp sp rs2 hp2 ra o
  have npm:∀ {μ2:Mu} {H2:Hp},StP p (μ1.hide p) (upd H1 p (.lst [])) μ2 H2→p∈μ2.h:=fun sp=>by rw[sp.hid]; exact List.mem_cons_self
  have st0:StP p (μ1.hide p) (upd H1 p (.lst [])) (μ1.hide p) (upd H1 p (.lst [])):=.of .refl
  cases it with
  | items ds=>
    have rd:dZ X.K X.mg μ1 H1 ds J:=rd
    refine ⟨fun i n H=>n+i=ds.length∧∃μ S acc us,StP p (μ1.hide p) (upd H1 p (.lst [])) μ H∧RelS X.K X.mg μ H S∧H p=some (.lst us)∧RepAll X.K X.mg μ H acc us∧Z (c8 g tc m w (ds.drop i) acc S),
      ⟨ds.length,rfl,_,S1,[],[],st0,rs.hide hp,upd_same,.nil,o1⟩,?_⟩
    rintro i n H ⟨hn,μ,S,acc,us,sp,rs,hpp,ra,o⟩
    have sb:Stp μ1 H1 μ H:=sh.trans sp.toStp
    by_cases hi:i<ds.length
    · have ed:ds.drop i=ds[i]::ds.drop (i+1):=List.drop_eq_getElem_cons hi
      rw[ed] at o
      unfold c8 at o
      refine .inr ⟨rd.goes i μ H hi sb,fun H=>∃μ S acc us,StP p (μ1.hide p) (upd H1 p (.lst [])) μ H∧RelS X.K X.mg μ H S∧H p=some (.lst us)∧RepAll X.K X.mg μ H acc us∧Z (c8 g tc m w (ds.drop (i+1)) acc S),fun H' w=>⟨n - 1,by omega,by omega,w⟩,fun x H' y=>?_⟩
      obtain ⟨sm,rx⟩:=rd.yields i _ μ H S x H' (List.getElem?_eq_getElem hi) sb rs y
      have sx:Step μ H μ H':=.of_sm sm
      have spx:=sp.trans (StP.of sx)
      refine nZ ((rw1.stp sh).stp spx.toStp) (rs.sm sm) (sm _ _ hpp) (npm spx) (RepAll.step sx _ _ ra) rx hz o fun μ3 H3 S3 acc' us' s3 rs3 hp3 ra3 o3=>⟨μ3,S3,acc',us',spx.trans s3,rs3,hp3,ra3,o3⟩
    · have e:i=ds.length:=by omega
      subst e
      rw[List.drop_length] at o
      exact .inl ⟨rd.stops μ H sb,fin μ H S acc us sp rs hpp ra o⟩
  | live l=>
    obtain ⟨a,ha,rfl⟩:=rd
    refine ⟨fun i n H=>∃μ S acc us,StP p (μ1.hide p) (upd H1 p (.lst [])) μ H∧RelS X.K X.mg μ H S∧H p=some (.lst us)∧RepAll X.K X.mg μ H acc us∧Z (fP g tc m w l n i acc S),
      ⟨_,_,S1,[],[],st0,rs.hide hp,upd_same,.nil,o1⟩,?_⟩
    rintro i n H ⟨μ,S,acc,us,sp,rs,hpp,ra,o⟩
    have sb:Stp μ1 H1 μ H:=sh.trans sp.toStp
    cases n with
    | zero=>exact (hz o).elim
    | succ n=>
      unfold fP at o
      split at o
      · rename_i xs es
        obtain ⟨a',h1,vs',h2,h3⟩:=rs.at_ _ _ es
        rw[sb.get ha] at h1; cases h1
        split at o
        · rename_i hx
          refine .inl ⟨⟨vs',.of h2,?_⟩,fin μ H S acc us sp rs hpp ra o⟩
          rw[←h3.length]
          exact List.getElem?_eq_none_iff.mp hx
        · rename_i d hx
          obtain ⟨v,hv,rv⟩:=h3.get hx
          refine .inr ⟨⟨vs',v,.of h2,hv⟩,fun H=>∃μ S acc us,StP p (μ1.hide p) (upd H1 p (.lst [])) μ H∧RelS X.K X.mg μ H S∧H p=some (.lst us)∧RepAll X.K X.mg μ H acc us∧Z (fP g tc m w l n (i+1) acc S),fun H' w=>⟨n,Nat.lt_succ_self n,w⟩,fun x H' y=>?_⟩
          obtain ⟨rfl,y⟩:=y
          have q:=y vs' (.of h2)
          rw[hv] at q; cases q
          exact nZ ((rw1.stp sh).stp sp.toStp) rs hpp (npm sp) ra rv hz o fun μ3 H3 S3 acc' us' s3 rs3 hp3 ra3 o3=>⟨μ3,S3,acc',us',sp.trans s3,rs3,hp3,ra3,o3⟩
      · exact (hz o).elim
  | liveE l=>
    obtain ⟨a,ha,rfl⟩:=rd
    refine ⟨fun i n H=>∃μ S acc us,StP p (μ1.hide p) (upd H1 p (.lst [])) μ H∧RelS X.K X.mg μ H S∧H p=some (.lst us)∧RepAll X.K X.mg μ H acc us∧Z (iU g tc m w l n i acc S),
      ⟨_,_,S1,[],[],st0,rs.hide hp,upd_same,.nil,o1⟩,?_⟩
    rintro i n H ⟨μ,S,acc,us,sp,rs,hpp,ra,o⟩
    have sb:Stp μ1 H1 μ H:=sh.trans sp.toStp
    cases n with
    | zero=>exact (hz o).elim
    | succ n=>
      unfold iU at o
      split at o
      · rename_i xs es
        obtain ⟨a',h1,vs',h2,h3⟩:=rs.at_ _ _ es
        rw[sb.get ha] at h1; cases h1
        split at o
        · rename_i hx
          refine .inl ⟨⟨vs',.of h2,?_⟩,fin μ H S acc us sp rs hpp ra o⟩
          rw[←h3.length]
          exact List.getElem?_eq_none_iff.mp hx
        · rename_i d hx
          obtain ⟨v,hv,rv⟩:=h3.get hx
          refine .inr ⟨⟨vs',v,.of h2,hv⟩,fun H=>∃μ S acc us,StP p (μ1.hide p) (upd H1 p (.lst [])) μ H∧RelS X.K X.mg μ H S∧H p=some (.lst us)∧RepAll X.K X.mg μ H acc us∧Z (iU g tc m w l n (i+1) acc S),fun H' w=>⟨n,Nat.lt_succ_self n,w⟩,fun x H' y=>?_⟩
          obtain ⟨T,z,rfl,hT,rfl,y⟩:=y
          have q:=y vs' (.of h2)
          rw[hv] at q; cases q
          have sm:Sm H (upd H T (.tup [.int (i:Int),v])):=.upd hT
          have sx:Step μ H μ (upd H T (.tup [.int (i:Int),v])):=.of_sm sm
          have rx:Rep X.K X.mg μ (upd H T (.tup [.int (i:Int),v])) (.tup [.int (i:Nat),d]) (.ref T):=bQ rs hT (.cons (az _) (.cons rv .nil))
          have spx:=sp.trans (StP.of sx)
          exact nZ ((rw1.stp sh).stp spx.toStp) (rs.sm sm) (sm _ _ hpp) (npm spx) (RepAll.step sx _ _ ra) rx hz o fun μ3 H3 S3 acc' us' s3 rs3 hp3 ra3 o3=>⟨μ3,S3,acc',us',spx.trans s3,rs3,hp3,ra3,o3⟩
      · exact (hz o).elim
end
end DL
namespace DL
open PySem PySem.Spec PyProof.Rows L2
def yj (r:MA):ME:=fun env S=>(r env S).bind fun ds S=>match ds.map (view S) with
  | [.lst ys]=>.ok (.loc S.length) (S++[.lst ys])
  | _=>.stuck
def eCutM (m:ME) (ml mh:MP):ME:=fun env S=>(m env S).bind fun d S=>(ml env S).bind fun lo S=>(mh env S).bind fun hi S=>match view0 S d with
  | .lst xs=>.ok (.loc S.length) (S++[.lst (fX xs lo hi)])
  | _=>.stuck
@[simp] theorem eListM_at (r:MA) (env:En) (S:Sto):yj r env S=(r env S).bind fun ds S=>match ds.map (view S) with
  | [.lst ys]=>.ok (.loc S.length) (S++[.lst ys])
  | _=>.stuck:=rfl
@[simp] theorem eCutM_at (m:ME) (ml mh:MP) (env:En) (S:Sto):eCutM m ml mh env S=(m env S).bind fun d S=>(ml env S).bind fun lo S=>(mh env S).bind fun hi S=>match view0 S d with
  | .lst xs=>.ok (.loc S.length) (S++[.lst (fX xs lo hi)])
  | _=>.stuck:=rfl
end DL
namespace DL
open PySem PySem.Spec PyProof.Rows L2
@[simp] theorem eKdIn_at (neg:Bool) (tbl:List (Str × Int)) (m:ME) (env:En) (S:Sto):eKdIn neg tbl m env S=(m env S).bind fun d S=>match d with
  | .str x=>.ok (.bool (if neg then !(tbl.map (·.1)).contains x else (tbl.map (·.1)).contains x)) S
  | _=>.stuck:=rfl
@[simp] theorem eKdIx_at (tbl:List (Str × Int)) (m:ME) (env:En) (S:Sto):eKdIx tbl m env S=(m env S).bind fun d S=>match d with
  | .str x=>ofO S ((tbl.lookup x).map .int)
  | _=>.stuck:=rfl
end DL
namespace DL
open PySem PySem.Spec PyProof.Rows L2 LamX
section
variable {Q:D→Sto→Prop} {E:XV→Sto→Prop} {N B C:En→Sto→Prop} {R:D→Sto→Prop}
@[simp ↓] theorem wq_eCompX (mi:MI) (g:MG) (m:ME) (vs:List Nat) (env:En) (S:Sto):Res.wp (eCompX mi g m vs env S) Q E=Res.wp ((uu mi g m vs env S).bind fun ds S=>.ok (.lst ds) S) Q E:=rfl
@[simp] theorem compRX_at (mi:MI) (g:MG) (m:ME) (vs:List Nat) (env:En) (S:Sto):uu mi g m vs env S=(mi env S).bind fun it S=>match it with
  | .items ds=>kw g m (aU env vs) ds [] S
  | .live l=>uq g m (aU env vs) l (dB S l+1) 0 [] S
  | .liveE _=>.stuck:=rfl
@[simp] theorem compIX_nil (g:MG) (m:ME) (w:En) (acc:List D) (S:Sto):kw g m w [] acc S=.ok acc S:=rfl
@[simp] theorem BC (g:MG) (m:ME) (w:En) (d:D) (ds acc:List D) (S:Sto):kw g m w (d::ds) acc S=(wD g m w d acc S).bind fun acc S=>kw g m w ds acc S:=rfl
@[simp] theorem turnX_at (g:MG) (m:ME) (w:En) (d:D) (acc:List D) (S:Sto):wD g m w d acc S=match g d w S with
  | none=>.stuck
  | some p=>(m p.1 p.2).bind fun v S3=>if acc.length<1000000 then .ok (acc++[v]) S3 else .stuck:=rfl
@[simp] theorem gFld_at (cn g:Str) (mo:ME) (v:D) (env:En) (S:Sto):gFld cn g mo v env S=match mo env S with
  | .ok (.loc l) S1=>match S1[l]? with
    | some (.ins C fs)=>if C=cn∧fs.length<1000 then some (env,S1.set l (.ins C (iK g v fs))) else none
    | _=>none
  | _=>none:=rfl
def isRd:D→Bool
  | .tup [.int x,.int y]=>u5 (x,y)
  | _=>false
@[simp ↓] theorem wq_eDictCT (r:MA) (env:En) (S:Sto):Res.wp (wH r env S) Q E=Res.wp ((r env S).bind fun ds S=>match ds with
  | [.loc l]=>match dE S[l]? with
    | some (true,kvs)=>if (kvs.all fun p=>isRd p.1)=true then .ok (.loc S.length) (S++[.dct true kvs]) else .stuck
    | _=>.stuck
  | _=>.stuck) Q E:=rfl
@[simp ↓] theorem wq_eListM (r:MA) (env:En) (S:Sto):Res.wp (yj r env S) Q E=Res.wp ((r env S).bind fun ds S=>match ds.map (view S) with
  | [.lst ys]=>.ok (.loc S.length) (S++[.lst ys])
  | _=>.stuck) Q E:=rfl
@[simp ↓] theorem wq_eCutM (m:ME) (ml mh:MP) (env:En) (S:Sto):Res.wp (eCutM m ml mh env S) Q E=Res.wp ((m env S).bind fun d S=>(ml env S).bind fun lo S=>(mh env S).bind fun hi S=>match view0 S d with
  | .lst xs=>.ok (.loc S.length) (S++[.lst (fX xs lo hi)])
  | _=>.stuck) Q E:=rfl
end
end DL
namespace DL
open PySem PySem.Spec PyProof.Rows L2
end DL
namespace DL
open PySem PySem.Spec PyProof.Rows L2
/-- what a list holds is named -/
def gTupL (n:Nat) (gs:MGs):MG:=fun d env S=>match view0 S d with
  | .lst ds=>if ds.length=n then gs ds env S else none
  | _=>none
@[simp] theorem gTupL_at (n:Nat) (gs:MGs) (d:D) (env:En) (S:Sto):gTupL n gs d env S=match view0 S d with
  | .lst ds=>if ds.length=n then gs ds env S else none
  | _=>none:=rfl
@[simp ↓] theorem wq_eCatM {Q:D→Sto→Prop} {E:XV→Sto→Prop} (ma mb:ME) (env:En) (S:Sto):Res.wp (eCatM ma mb env S) Q E=Res.wp ((ma env S).bind fun a S=>(mb env S).bind fun b S=>match view0 S a,view0 S b with
  | .lst xs,.lst ys=>if xs.length+ys.length≤1000000 then .ok (.loc S.length) (S++[.lst (xs++ys)]) else .stuck
  | _,_=>.stuck) Q E:=rfl
end DL
namespace DL
open PySem PySem.Spec PyProof.Rows L2 LamX
theorem LamHere.blk {X:Cx} {p:Str × Option Str} (lh:LamHere X p) {s:Shared} {H:Hp} {sc:Scope} {cl:List (Str × Addr)} {C:Addr} {fp:List Addr}:LamHere (X.blk s H sc (compEnvC sc cl C X.env) fp) p:=⟨lh.tb,lh.code,lh.mem,lh.uniq⟩
end DL
namespace DL
open PySem PySem.Spec PyProof.Rows L2
open PySem.SeqAt PySem.MeetsSeq PySem.MeetsSeq2 PySem.MeetsSeq3 PySem.SeqRoads2 PySem.AutoSeq1
end DL
namespace DL
open PySem PySem.Spec PyProof.Rows L2
end DL
namespace DL
open PySem PySem.Spec PyProof.Rows L2 LamX
section
variable {X:Cx} {W:WX}
/-- the slot of a lambda's own name,as its default has it -/
def eZ (i:Nat) (m:ME):ME:=fun env S=>m (env.set i (some (.int 0))) S
@[simp] theorem eZ_at (i:Nat) (m:ME) (env:En) (S:Sto):eZ i m env S=m (env.set i (some (.int 0))) S:=rfl
end
end DL
namespace DL
open PySem PySem.Spec PyProof.Rows L2
def zipSD:List D→Option (List D)
  | [.tup xs,.str y]=>some (fG xs (iS y))
  | [.lst xs,.str y]=>some (fG xs (iS y))
  | _=>none
def iZipS (r:MA):MI:=fun env S=>(r env S).bind fun ds S=>ofO S ((zipSD (ds.map vt)).map .items)
end DL
namespace DL
open PySem PySem.Spec PyProof.Rows
open PySem.Sem (wp)
end DL
namespace DL
open PySem PySem.Spec PyProof.Rows
open PySem.Sem (wp)
end DL
namespace DL
open PySem PySem.Spec PyProof.Rows L2
end DL
namespace DL
open PySem PySem.Spec PyProof.Rows L2
def sR:List D→Option D
  | [.tup xs,.str y]=>some (.lst (fG xs (iS y)))
  | _=>none
def yl (r:MA):ME:=fun env S=>(r env S).bind fun ds S=>ofO S (sR (ds.map vt))
@[simp] theorem BD (r:MA) (env:En) (S:Sto):yl r env S=(r env S).bind fun ds S=>ofO S (sR (ds.map vt)):=rfl
@[simp] theorem iZipS_at (r:MA) (env:En) (S:Sto):iZipS r env S=(r env S).bind fun ds S=>ofO S ((zipSD (ds.map vt)).map .items):=rfl
end DL
namespace DL
open PySem PySem.Spec PyProof.Rows L2
section
variable {X:Cx}
/-- what stands in a text's gap -/
def fmD:D→Option D
  | .str y=>if y.length≤16777216 then some (.str y) else none
  | .int i=>if i.natAbs<1000000000 then some (.str (toString i)) else none
  | _=>none
def eFm (m:ME):ME:=fun env S=>(m env S).bind fun d S=>ofO S (fmD d)
def jsM:List ME→Str→En→Sto→Res Str
  | [],acc=>fun _ S=>.ok acc S
  | m::ms,acc=>fun env S=>(m env S).bind fun d S=>match d with
    | .str y=>if (acc++y).length≤16777216 then jsM ms (acc++y) env S else .stuck
    | _=>.stuck
def eJs (ms:List ME):ME:=fun env S=>(jsM ms Str.empty env S).bind fun y S=>.ok (.str y) S
end
@[simp] theorem eFm_at (m:ME) (env:En) (S:Sto):eFm m env S=(m env S).bind fun d S=>ofO S (fmD d):=rfl
@[simp] theorem eJs_at (ms:List ME) (env:En) (S:Sto):eJs ms env S=(jsM ms Str.empty env S).bind fun y S=>.ok (.str y) S:=rfl
@[simp] theorem jsM_nil (acc:Str) (env:En) (S:Sto):jsM [] acc env S=.ok acc S:=rfl
@[simp] theorem jsM_cons (m:ME) (ms:List ME) (acc:Str) (env:En) (S:Sto):jsM (m::ms) acc env S=(m env S).bind fun d S=>match d with
    | .str y=>if (acc++y).length≤16777216 then jsM ms (acc++y) env S else .stuck
    | _=>.stuck:=rfl
end DL
namespace DL
open PySem PySem.Spec PyProof.Rows L2
def ym (tbl:List (Str × Str)) (x:Str) (d:D):D:=match tbl.lookup x with
  | some y=>.str y
  | none=>d
def eKdGet (tbl:List (Str × Str)) (m md:ME):ME:=fun env S=>(m env S).bind fun d S=>(md env S).bind fun d2 S=>match d with
  | .str x=>.ok (ym tbl x d2) S
  | _=>.stuck
@[simp] theorem eKdGet_at (tbl:List (Str × Str)) (m md:ME) (env:En) (S:Sto):eKdGet tbl m md env S=(m env S).bind fun d S=>(md env S).bind fun d2 S=>match d with
  | .str x=>.ok (ym tbl x d2) S
  | _=>.stuck:=rfl
end DL
namespace DL
open PySem PySem.Spec PyProof.Rows L2
def fIntS (_:Sto) (ds:List D):Option D:=match ds with
  | [.str a]=>if a.length≤640 then (PySem.intText? a).map .int else none
  | _=>none
@[simp] theorem fIntS_str (S:Sto) (a:Str):fIntS S [.str a]=if a.length≤640 then (PySem.intText? a).map .int else none:=rfl
end DL
namespace DL
open PySem PySem.Spec PyProof.Rows L2
section
variable {X:Cx} {a b:Expr} {sp pos:Pos} {k:Nat}
/-- a,*b=t -/
def AX (gs:MGs):MG:=fun d env S=>match vt d with
  | .lst (x::xs)=>gs [x,.lst xs] env S
  | _=>none
end
@[simp] theorem BE (gs:MGs) (x:D) (xs:List D) (env:En) (S:Sto):AX gs (.lst (x::xs)) env S=gs [x,.lst xs] env S:=rfl
end DL
namespace DL
open PySem PySem.Spec PyProof.Rows L2
end DL
namespace SN
open PySem PySem.Spec PyProof.Rows L2
/-- from each slot each other one is met -/
def wI (m:Nat):Prop:=∀i j,i≤m→j≤m→∃k,k≤m∧lcgI m i k=j
theorem yn {m:Nat} (all:∀j,j≤m→∃b,b≤m∧lcgN m b=j) (back:lcgN m (m+1)=0):wI m:=by
  have per:∀k,lcgN m (m+1+k)=lcgN m k:=fun k=>by
    induction k with
    | zero=>exact back
    | succ k ih=>
      show (lcgN m (m+1+k)*5+1) % (m+1)=_
      rw[ih]
      rfl
  intro i j hi hj
  obtain ⟨a,la,rfl⟩:=all i hi
  obtain ⟨b,lb,rfl⟩:=all j hj
  by_cases hab:a≤b
  · exact ⟨b - a,by omega,by rw[lcgN_add,show a+(b - a)=b by omega]⟩
  · exact ⟨m+1+b - a,by omega,by rw[lcgN_add,show a+(m+1+b - a)=m+1+b by omega,per]⟩
/-- when each slot of 512 is met -/
def when9:List Nat:=[0,1,326,495,412,365,2,379,376,281,254,327,404,261,58,339,496,305,438,415,140,413,370,43,360,73,366,247,132,309,426,3,480,97,38,335,380,461,226,219,344,377,478,167,372,357,282,179,464,401,150,255,108,509,82,395,328,169,78,87,100,405,138,355,448,193,262,175,348,45,450,59,312,473,190,7,340,453,506,19,432,497,374,95,76,93,306,235,296,265,302,439,68,501,362,195,416,289,486,15,316,141,162,411,280,57,414,359,308,37,218,371,400,81,86,447,44,189,18,75,264,361,14,279,36,85,74,35,384,385,198,367,284,237,386,251,248,153,126,199,276,133,442,211,368,177,310,287,12,285,242,427,232,457,238,119,4,181,298,387,352,481,422,207,252,333,98,91,216,249,350,39,244,229,154,51,336,273,22,127,492,381,466,267,200,41,462,471,484,277,10,227,320,65,134,47,220,429,322,443,184,345,62,391,212,325,378,403,304,369,246,479,460,477,178,107,168,137,174,311,452,373,234,67,288,161,358,399,188,13,34,283,152,441,286,231,180,421,90,243,272,465,470,319,428,61,402,459,136,233,398,151,420,469,458,419,256,257,70,239,156,109,258,123,120,25,510,71,148,5,314,83,240,49,182,159,396,157,114,299,104,329,110,503,388,53,170,259,224,353,294,79,124,205,482,475,88,121,222,423,116,101,26,435,208,145,406,511,364,253,338,139,72,425,334,343,356,149,394,99,192,449,6,431,92,301,194,315,56,217,446,263,84,197,250,275,176,241,118,351,332,349,50,491,40,9,46,183,324,245,106,451,160,33,230,271,60,397,418,155,24,313,158,103,52,293,474,115,144,337,342,191,300,445,274,331,8,105,270,23,292,341,330,291,128,129,454,111,28,493,130,507,504,409,382,455,20,389,186,467,112,433,54,31,268,29,498,171,488,201,494,375,260,437,42,131,96,225,166,463,508,77,354,347,472,505,94,295,500,485,410,307,80,17,278,383,236,125,210,11,456,297,206,215,228,21,266,483,64,321,390,303,476,173,66,187,440,89,318,135,468,69,122,147,48,113,502,223,204,221,434,363,424,393,430,55,196,117,490,323,32,417,102,143,444,269,290,27,408,185,30,487,436,165,346,499,16,209,214,63,172,317,146,203,392,489,142,407,164,213,202,163]
theorem yo:((List.range 512).all fun j=>decide (when9.getD j 0≤511)&&(lcgN 511 (when9.getD j 0) == j))=true:=by decide +kernel
theorem yp:wI 511:=yn (fun j hj=>by
  have h:=List.all_eq_true.mp yo j (List.mem_range.mpr (by omega))
  rw[Bool.and_eq_true,decide_eq_true_eq,beq_iff_eq] at h
  exact ⟨_,h.1,h.2⟩) (by decide +kernel)
theorem lA {m:Nat} (h:MaskOk m):wI m:=fun i j hi hj=>lcgI_all h hi hj
/-- the masks that come,of sets of at most 306 things -/
structure Mk (m:Nat):Prop where
  cs:m=7∨m=31∨m=127∨m=511
theorem Mk.rd {m:Nat} (h:Mk m):wI m:=by
  rcases h.cs with e|e|e|e
  · exact lA (.inl e)
  · exact lA (.inr (.inl e))
  · exact lA (.inr (.inr e))
  · rw[e]; exact yp
theorem Mk.le {m:Nat} (h:Mk m):m≤511:=by rcases h.cs with e|e|e|e<;>omega
theorem Mk.odd {m:Nat} (h:Mk m):m % 2=1:=by rcases h.cs with e|e|e|e<;>(subst e; rfl)
/-- the run that begins at a slot comes early -/
theorem Mk.run {m:Nat} (h:Mk m) (z:Int) {j:Nat} (hj:j≤m):∃n,n≤12+m∧runI m (SetTable.bits z) n=j:=by
  obtain ⟨k,hk,e⟩:=h.rd _ j (runI_le m (SetTable.bits z) 12) hj
  exact ⟨12+k,by omega,(runI_tail (bits_lt z) k).trans e⟩
/-- the way of a hash through a table -/
abbrev wy (m:Nat) (z:Int):SetTable.Probe:=runAt m (SetTable.bits z % (m+1)) (SetTable.bits z)
theorem Mk.meets {m:Nat} (h:Mk m) (z:Int) {j:Nat} (hj:j≤m):∃k,k<10*SetTable.turns m∧way m z k=j:=by
  obtain ⟨n,hn,e⟩:=h.run z hj
  obtain ⟨k,hk,e2⟩:=run_nth m (SetTable.bits z) n
  refine ⟨k,?_,?_⟩
  · unfold SetTable.turns
    omega
  · show (nth m (wy m z) k).j=j
    rw[e2]
    exact e
theorem u6 (m:Nat) (z:Int) (k:Nat):way m z k≤m:=by
  have hi:SetTable.bits z % (m+1)≤m:=by
    have:SetTable.bits z % (m+1)<m+1:=Nat.mod_lt _ (Nat.succ_pos m)
    omega
  have r:=runEnd_bd hi
  have q:=nth_in (m:=m) k (wy m z) (by show SetTable.bits z % (m+1)+(SetTable.runEnd m (SetTable.bits z % (m+1)) - SetTable.bits z % (m+1))≤m; omega)
  show (nth m (wy m z) k).j≤m
  omega
/-- a table in which all are found again from their hashes -/
structure Tb (t:SetTable) (hs:List Int):Prop where
  ris:Ris t.place.toList
  dm:t.dummies=#[]
  sz:t.place.toList.length=hs.length
  mok:Mk t.mask
  bd:∀x∈t.place.toList,x≤t.mask
  rch:∀(i:Nat) (z:Int) (j:Nat),hs[i]?=some z→t.place.toList[i]?=some j→∃k,way t.mask z k=j∧∀k',k'<k→way t.mask z k'∈t.place.toList
section
variable {t:SetTable} {hs:List Int} {z:Int}
/-- the first empty slot -/
theorem Tb.first (T:Tb t hs) (hl:hs.length≤t.mask) (z:Int):∃K,K<10*SetTable.turns t.mask∧way t.mask z K∉t.place.toList∧∀k,k<K→way t.mask z k∈t.place.toList:=by
  obtain ⟨j,hj,hn⟩:=st_missing t.place.toList (t.mask+1) (by have:=T.sz; omega)
  obtain ⟨k,hk,e⟩:=T.mok.meets z (j:=j) (by omega)
  obtain ⟨K,h1,h2,h3⟩:=st_least (p:=fun k=>way t.mask z k∉t.place.toList) k (by rw[e]; exact hn)
  exact ⟨K,by omega,h2,fun k' hk'=>Classical.not_not.mp (h3 k' hk')⟩
theorem Tb.ahead (T:Tb t hs) {K i j:Nat} (hK:way t.mask z K∉t.place.toList) (hi:hs[i]?=some z) (hj:t.place.toList[i]?=some j):∃k,k<K∧way t.mask z k=j:=by
  obtain ⟨k,e,hb⟩:=T.rch i z j hi hj
  refine ⟨k,?_,e⟩
  by_cases hKk:k<K
  · exact hKk
  · by_cases he:K<k
    · exact absurd (hb K he) hK
    · have hk:k=K:=by omega
      subst hk
      rw[e] at hK
      exact absurd (List.mem_of_getElem? hj) hK
/-- one more -/
theorem Tb.put (T:Tb t hs) {K:Nat} (hK:way t.mask z K∉t.place.toList) (hb:∀k,k<K→way t.mask z k∈t.place.toList) {j p:Nat} (hj:j=way t.mask z K) (hp:p=SetTable.below t.place j) :
    (t.put j).2=p∧p≤hs.length∧Tb (t.put j).1 (hs.take p++z::hs.drop p)∧(t.put j).1.mask=t.mask∧(t.put j).1.led=t.led∧(t.put j).1.plain=t.plain∧(t.put j).1.fill=hs.length+1:=by
  obtain ⟨c1,_,_⟩:=below_cut T.ris j
  rw[←hp] at c1
  have pl:p≤t.place.toList.length:=c1
  have ph:p≤hs.length:=by rw[←T.sz]; exact pl
  have hnm:j∉t.place.toList:=by rw[hj]; exact hK
  have hnp:t.place[SetTable.below t.place j]?≠some j:=fun e=>hnm (List.mem_of_getElem? (i:=SetTable.below t.place j) (by rw[Array.getElem?_toList]; exact e))
  have pp:(t.put j).1.place.toList=t.place.toList.take p++j::t.place.toList.drop p:=by rw[hp]; exact put_place t j
  have ln:(t.put j).1.place.toList.length=hs.length+1:=by rw[pp,len_ins _ pl,T.sz]
  have up:∀ {x:Nat},x∈t.place.toList→x∈(t.put j).1.place.toList:=fun hx=>by rw[pp]; exact mem_ins.mpr (.inr hx)
  refine ⟨hp.symm,ph,⟨ris_insert T.ris hnp,put_dm T.dm j,by rw[ln,len_ins _ ph],T.mok,fun x hx=>?_,fun i z' j' h1 h2=>?_⟩,rfl,rfl,rfl,?_⟩
  · rw[pp] at hx
    rcases mem_ins.mp hx with rfl|hx
    · rw[hj]; exact u6 _ _ _
    · exact T.bd x hx
  · have fwd:(∃k,way t.mask z' k=j'∧∀k',k'<k→way t.mask z' k'∈t.place.toList)→∃k,way t.mask z' k=j'∧∀k',k'<k→way t.mask z' k'∈(t.put j).1.place.toList:=fun ⟨k,e,f⟩=>⟨k,e,fun k' hk'=>up (f k' hk')⟩
    rw[tins_get hs ph] at h1
    rw[pp,tins_get _ pl] at h2
    by_cases c:i<p
    · rw[if_pos c] at h1 h2
      exact fwd (T.rch i z' j' h1 h2)
    · rw[if_neg c] at h1 h2
      by_cases d:i=p
      · rw[if_pos d] at h1 h2
        cases h1
        cases h2
        exact ⟨K,hj.symm,fun k' hk'=>up (hb k' hk')⟩
      · rw[if_neg d] at h1 h2
        exact fwd (T.rch (i - 1) z' j' h1 h2)
  · show (t.put j).1.place.toList.length+(t.put j).1.dummies.size=_
    rw[ln,put_dm T.dm j]
    rfl
end
section
variable {m:Nat} {owner:Array (Option Nat)} {done:List Int}
theorem Mk.free (h:Mk m) (owner:Array (Option Nat)) (z:Int) {j:Nat} (hj:j≤m) (hf:oAt owner j=none) :
    ∃K,SetTable.layClean.free m owner (SetTable.turns m) (SetTable.bits z % (m+1)) (SetTable.bits z)=some (way m z K)∧oAt owner (way m z K)=none∧∀k,k<K→oAt owner (way m z k)≠none:=by
  obtain ⟨n,hn,e⟩:=h.run z hj
  obtain ⟨o,ho⟩:∃o,o=off m (SetTable.bits z % (m+1)) (SetTable.bits z) n:=⟨_,rfl⟩
  have hw:way m z o=j:=by
    show (nth m (wy m z) o).j=j
    rw[ho,nth_off,itL_run]
    exact e
  obtain ⟨K,k1,k2,k3⟩:=st_least (p:=fun k=>oAt owner (way m z k)=none) o (by rw[hw]; exact hf)
  have occ:∀k,k<K→(oAt owner (nth m (wy m z) k).j).isNone=false:=fun k hk=>by
    have q:=k3 k hk
    cases y:oAt owner (nth m (wy m z) k).j with
    | none=>exact absurd y q
    | some _=>rfl
  exact ⟨K,free_spec m owner (SetTable.turns m) n _ _ K (by unfold SetTable.turns; omega) (by rw[←ho]; exact k1) occ (by rw[show oAt owner (nth m (wy m z) K).j=none from k2]; rfl),k2,k3⟩
theorem yq (h:Mk m) (W:Own m done owner) (hl:done.length≤m) (z:Int) :
    ∃j,SetTable.layClean.free m owner (SetTable.turns m) (SetTable.bits z % (m+1)) (SetTable.bits z)=some j∧Own m (done++[z]) (owner.setIfInBounds j (some done.length)):=by
  obtain ⟨ps,hps,hin⟩:=W.ps
  obtain ⟨f,f1,f2⟩:=st_missing ps (m+1) (by omega)
  have ff:oAt owner f=none:=Classical.byContradiction fun y=>f2 (hin f (by omega) y)
  obtain ⟨K,e1,e2,e3⟩:=h.free owner z (j:=f) (by omega) ff
  obtain ⟨j,hj⟩:∃j,j=way m z K:=⟨_,rfl⟩
  have jm:j≤m:=by rw[hj]; exact u6 _ _ _
  rw[←hj] at e1 e2
  have self:=oAt_set_self (owner:=owner) (some done.length) (j:=j) (by rw[W.sz]; omega)
  have some_:∀i,oAt owner i≠none→oAt (owner.setIfInBounds j (some done.length)) i≠none:=fun i hi=>by
    by_cases c:i=j
    · rw[c,self]; simp
    · rw[oAt_set_ne _ c]; exact hi
  refine ⟨j,e1,⟨by rw[Array.size_setIfInBounds]; exact W.sz,fun i k hi e=>?_,fun k hk=>?_,⟨j::ps,by simp[hps],fun i hi e=>?_⟩⟩⟩
  · by_cases c:i=j
    · rw[c,self] at e
      cases e
      exact ⟨z,K,by simp,by rw[c]; exact hj.symm,fun k' hk'=>some_ _ (e3 k' hk')⟩
    · rw[oAt_set_ne _ c] at e
      obtain ⟨z',K',a1,a2,a3⟩:=W.at_ i k hi e
      exact ⟨z',K',by rw[List.getElem?_append_left (List.getElem?_eq_some_iff.mp a1).1]; exact a1,a2,fun k' hk'=>some_ _ (a3 k' hk')⟩
  · rw[List.length_append,List.length_singleton] at hk
    by_cases c:k=done.length
    · exact ⟨j,jm,by rw[self,c]⟩
    · obtain ⟨i,i1,i2⟩:=W.all k (by omega)
      refine ⟨i,i1,?_⟩
      rw[oAt_set_ne _ fun y=>by rw[y,e2] at i2; cases i2]
      exact i2
  · by_cases c:i=j
    · rw[c]; exact List.mem_cons_self
    · rw[oAt_set_ne _ c] at e
      exact List.mem_cons_of_mem _ (hin i hi e)
theorem AY (h:Mk m):∀(rest done:List Int) (owner:Array (Option Nat)),Own m done owner→done.length+rest.length≤m→∃o2,rest.foldl (stepF m) (some (owner,done.length))=some (o2,(done++rest).length)∧Own m (done++rest) o2:=by
  intro rest
  induction rest with
  | nil=>
    intro done owner W _
    rw[List.append_nil]
    exact ⟨owner,rfl,W⟩
  | cons z rest ih=>
    intro done owner W hl
    rw[List.length_cons] at hl
    obtain ⟨j,e,W2⟩:=yq h W (by omega) z
    obtain ⟨o2,f,W3⟩:=ih (done++[z]) _ W2 (by rw[List.length_append,List.length_singleton]; omega)
    rw[List.append_assoc,List.length_append,List.length_singleton] at f
    rw[List.append_assoc] at W3
    refine ⟨o2,?_,W3⟩
    rw[List.foldl_cons,stepF_some e]
    exact f
theorem yr (h:Mk m) {hs:Array Int} (hn:hs.size≤m):∃owner,SetTable.layClean m hs=some owner∧Own m hs.toList owner:=by
  obtain ⟨o2,f,W⟩:=AY h hs.toList [] _ (Own.init m) (by simpa using hn)
  rw[List.nil_append] at f W
  refine ⟨o2,?_,W⟩
  rw[layClean_eq]
  have f:hs.toList.foldl (stepF m) (some (Array.replicate (m+1) none,0))=some (o2,hs.toList.length):=f
  rw[f]
  rfl
end
theorem yt (t:SetTable) {hs:Array Int} {wanted M:Nat} (hw:SetTable.sizeAbove wanted - 1=M) (hM:Mk M) (hn:hs.size≤M) :
    ∃t2 order,t.relaid hs wanted=some (t2,order)∧order.toList.Perm (List.range hs.size)∧Tb t2 (order.toList.map fun i=>hs.getD i 0)∧t2.mask=M∧t2.led=t.led∧t2.plain=t.plain:=by
  obtain ⟨owner,e,W⟩:=yr hM hn
  obtain ⟨lv,hlv⟩:∃lv,lv=liveOf M owner:=⟨_,rfl⟩
  have ml:∀ {j k:Nat},(j,k)∈lv↔j≤M∧oAt owner j=some k:=fun {j k}=>by rw[hlv]; exact mem_live W.sz
  have hr:t.relaid hs wanted=some (tabOf t M owner,(lv.map (·.2)).toArray):=by
    rw[relaid_eq,hw,e,hlv]
    rfl
  have ris:=ris_live (fun j=>owner.getD j none) (List.range (M+1)) (by unfold Ris; exact List.pairwise_lt_range)
  have r1:Ris (lv.map (·.1)):=by rw[hlv]; exact ris.1
  have r2:∀x∈lv.map (·.1),x≤M:=fun x hx=>by
    obtain ⟨⟨y,k⟩,hq,rfl⟩:=List.mem_map.mp hx
    exact (ml.mp hq).1
  have nd:(lv.map (·.1)).Nodup:=r1.imp fun h=>Nat.ne_of_lt h
  have al:∀k,k<hs.size→k∈lv.map (·.2):=fun k hk=>by
    obtain ⟨j,b⟩:=W.all k (by rw[Array.length_toList]; exact hk)
    exact List.mem_map.mpr ⟨(j,k),ml.mpr b,rfl⟩
  have hlen:lv.length=hs.size:=by
    obtain ⟨ps,p1,p2⟩:=W.ps
    have a:=nat_nodup_len (lv.map (·.1)) ps nd fun x hx=>by
      obtain ⟨⟨y,k⟩,hq,rfl⟩:=List.mem_map.mp hx
      exact p2 y (ml.mp hq).1 (by rw[(ml.mp hq).2]; simp)
    have b:=nat_nodup_len (List.range hs.size) (lv.map (·.2)) List.nodup_range fun k hk=>al k (List.mem_range.mp hk)
    rw[List.length_map,p1] at a
    rw[List.length_map,List.length_range] at b
    have c:hs.toList.length=hs.size:=rfl
    omega
  have hpl:(tabOf t M owner).place.toList=lv.map (·.1):=by rw[hlv]; rfl
  refine ⟨tabOf t M owner,(lv.map (·.2)).toArray,hr,perm_range hs.size _ (by rw[←hlen]; simp) (by simpa using al),⟨by rw[hpl]; exact r1,rfl,by rw[hpl]; simp,hM,by rw[hpl]; exact r2,fun i z j h1 h2=>?_⟩,rfl,rfl,rfl⟩
  rw[hpl] at h2 ⊢
  rw[List.getElem?_map] at h2
  obtain ⟨⟨y,k⟩,hq,ej⟩:=Option.map_eq_some_iff.mp h2
  obtain rfl:y=j:=ej
  have h1:((lv.map (·.2)).map fun i=>hs.getD i 0)[i]?=some z:=h1
  rw[List.getElem?_map,List.getElem?_map,hq] at h1
  have ez:hs.getD k 0=z:=Option.some.inj h1
  obtain ⟨b1,b2⟩:=ml.mp (List.mem_of_getElem? hq)
  obtain ⟨z0,K,a1,a2,a3⟩:=W.at_ y k b1 b2
  have e0:hs.getD k 0=z0:=by rw[Array.getD_eq_getD_getElem?,←Array.getElem?_toList,a1]; rfl
  obtain rfl:z0=z:=e0.symm.trans ez
  refine ⟨K,a2,fun k' hk'=>?_⟩
  show way M z0 k'∈lv.map (·.1)
  cases y2:oAt owner (way M z0 k') with
  | none=>exact absurd y2 (a3 k' hk')
  | some k2=>exact List.mem_map.mpr ⟨(way M z0 k',k2),ml.mpr ⟨u6 _ _ _,y2⟩,rfl⟩
/-- where a set grows -/
theorem grow4:SetTable.sizeAbove (SetTable.grown 5)=32∧SetTable.sizeAbove (SetTable.grown 19)=128∧SetTable.sizeAbove (SetTable.grown 77)=512:=by decide +kernel
end SN
namespace SN
open PySem PySem.Spec PyProof.Rows L2
/-- numbers only -/
inductive u7:NestedKey→Prop where
  | num (i:Int):u7 (.num i)
  | tup {ks:List NestedKey}:(∀k∈ks,u7 k)→u7 (.tup ks)
section
variable {P:Program} {w:World} {A:Around} {E:Value→Shared→Prop} {s:Shared}
/-- an answer that changes nothing -/
def Says (P:Program) (w:World) (s:Shared) (f:Sem Bool) (b:Bool):Prop:=∀(A:Around) (E:Value→Shared→Prop) (Q:Bool→Shared→Prop),Q b s→wpAny (model P w) A f Q E s
theorem Says.of_eq {f:Sem Bool} {b:Bool} (e:f=pure b):Says P w s f b:=fun A E Q h=>by
  rw[e]
  exact wpAny_pure h
theorem u8 {h:Heap}:∀ {ks:List NestedKey} {vs:List Value},NestedAll h ks vs→∀v∈vs,∃k∈ks,NestedIs h k v
  | _,_,.nil,v,hv=>by cases hv
  | _,_,.cons a r,v,hv=>by
    rcases List.mem_cons.mp hv with rfl|hv
    · exact ⟨_,List.mem_cons_self,a⟩
    · obtain ⟨k,hk,x⟩:=u8 r v hv
      exact ⟨k,List.mem_cons_of_mem _ hk,x⟩
theorem lB:∀ {ks:List NestedKey} {k:NestedKey},k∈ks→k.depth≤NestedKey.depthAll ks
  | [],_,h=>by cases h
  | a::ks,k,h=>by
    unfold NestedKey.depthAll
    rcases List.mem_cons.mp h with rfl|h
    · omega
    · have:=lB h
      omega
theorem yu:∀(n:Nat) (k:NestedKey) (v:Value),NestedIs s.heap k v→u7 k→k.depth≤n→Says P w s (ofAClassStatement n v) false:=by
  intro n
  induction n with
  | zero=>
    intro k v x y hd
    cases y with
    | num i=>cases x<;>exact .of_eq rfl
    | tup hk=>unfold NestedKey.depth at hd; omega
  | succ n ih=>
    intro k v x y hd
    cases y with
    | num i=>cases x<;>exact .of_eq rfl
    | tup hk=>
      rename_i ks
      cases x with
      | tup hg hc hdt hall=>
        rename_i a o vs m
        unfold NestedKey.depth at hd
        intro A E Q h
        have hT:s.TypeIs (.ref a) "tuple":=⟨o,hg,hc⟩
        unfold ofAClassStatement
        refine wpAny_bind (wpAny_typeOf hT ?_)
        dsimp only
        have e:(("tuple":String) == "tuple")=true:=by decide
        simp only[e,if_true,Bool.not_true,Bool.false_eq_true,if_false]
        refine wpAny_bind (wpAny_pure ?_)
        simp only[Bool.not_true,Bool.false_eq_true,if_false]
        refine wpAny_bind (wpAny_seqItems hg hdt ?_)
        dsimp only
        refine wpAny_bind ?_
        show wpAny _ _ (forIn vs _ _) _ _ s
        rw[←Array.forIn_toList]
        refine wpAny_forIn_list _ (fun rest r s'=>(r.1=none∧s'=s)∧∀v∈rest,v∈vs.toList) _ ?_ ?_ _ _ ⟨⟨rfl,rfl⟩,fun v h=>h⟩
        · rintro v rest r s' ⟨⟨hr,rfl⟩,hin⟩
          obtain ⟨k,hk1,hk2⟩:=u8 hall v (hin v List.mem_cons_self)
          refine wpAny_bind (ih k v hk2 (hk k hk1) (by have:=lB hk1; omega) _ _ _ ?_)
          simp only[Bool.false_eq_true,if_false]
          exact wpAny_pure ⟨⟨rfl,rfl⟩,fun u hu=>hin u (List.mem_cons_of_mem _ hu)⟩
        · rintro ⟨r1,r2⟩ s' ⟨⟨hr,rfl⟩,_⟩
          simp only at hr
          subst hr
          exact wpAny_pure h
theorem AZ:∀(n:Nat) (k:NestedKey) (v:Value),NestedIs s.heap k v→u7 k→k.depth≤n→Says P w s (hashByValue n v) true:=by
  intro n
  induction n with
  | zero=>
    intro k v x y hd
    cases y with
    | num i=>cases x<;>exact .of_eq rfl
    | tup hk=>unfold NestedKey.depth at hd; omega
  | succ n ih=>
    intro k v x y hd
    cases y with
    | num i=>cases x<;>exact .of_eq rfl
    | tup hk=>
      rename_i ks
      cases x with
      | tup hg hc hdt hall=>
        rename_i a o vs m
        unfold NestedKey.depth at hd
        intro A E Q h
        have hT:s.TypeIs (.ref a) "tuple":=⟨o,hg,hc⟩
        unfold hashByValue
        refine wpAny_bind (wpAny_specialOf hT F.slot_tuple_hash.lookup ?_)
        show wpAny _ _ (seqItems? (.ref a) >>= _) _ _ s
        refine wpAny_bind (wpAny_seqItems hg hdt ?_)
        refine wpAny_bind ?_
        show wpAny _ _ (forIn vs _ _) _ _ s
        rw[←Array.forIn_toList]
        refine wpAny_forIn_list _ (fun rest r s'=>(r.1=none∧s'=s)∧∀v∈rest,v∈vs.toList) _ ?_ ?_ _ _ ⟨⟨rfl,rfl⟩,fun v h=>h⟩
        · rintro v rest r s' ⟨⟨hr,rfl⟩,hin⟩
          obtain ⟨k,hk1,hk2⟩:=u8 hall v (hin v List.mem_cons_self)
          refine wpAny_bind (ih k v hk2 (hk k hk1) (by have:=lB hk1; omega) _ _ _ ?_)
          simp only[Bool.not_true,Bool.false_eq_true,if_false]
          exact wpAny_pure ⟨⟨rfl,rfl⟩,fun u hu=>hin u (List.mem_cons_of_mem _ hu)⟩
        · rintro ⟨r1,r2⟩ s' ⟨⟨hr,rfl⟩,_⟩
          simp only at hr
          subst hr
          exact wpAny_pure h
/-- the tuple at a is the key k -/
structure IsN (h:Heap) (k:NestedKey) (a:Addr):Prop where
  is:NestedIs h k (.ref a)
  dp:k.depth≤8
  nu:u7 k
theorem IsN.kind {h:Heap} {k:NestedKey} {a:Addr} (x:IsN h k a):(nestedKind P w).is h k a:=⟨x.is,x.dp⟩
theorem IsN.step {h h':Heap} {k:NestedKey} {a:Addr} (x:IsN h k a) (hk:∀a o vs n,h.get? a=some o→o.data=.seq vs n→h'.get? a=some o):IsN h' k a:=⟨NestedIs.at hk k _ x.is,x.dp,x.nu⟩
theorem IsN.more {h h':Heap} {k:NestedKey} {a:Addr} (x:IsN h k a) (hk:∀c o,h.get? c=some o→h'.get? c=some o):IsN h' k a:=x.step fun a o _ _ e _=>hk a o e
theorem IsN.beside {h h':Heap} {k:NestedKey} {a b:Addr} {o:Obj} {es:Array (Int × Value)} {ep:Nat} {t:SetTable} (x:IsN h k b) (ho:h.get? a=some o) (hd:o.data=.set es ep t) (hs:Heap.SameBut a h h'):IsN h' k b:=
  x.step fun c o' vs n e d=>(hs.2 c fun z=>by
    rw[z,ho] at e
    cases e
    rw[hd] at d
    cases d).trans e
/-- a search among such tuples shows nothing -/
theorem unseen {k:NestedKey} {b:Addr} (x:IsN s.heap k b) {ys:List Value} (hy:∀y∈ys,∃k' c,y=Value.ref c∧IsN s.heap k' c):Says P w s (searchCouldBeSeen (.ref b) ys) false:=by
  intro A E Q h
  unfold searchCouldBeSeen
  refine wpAny_bind ?_
  refine wpAny_forIn_list _ (fun rest r s'=>(r.1=none∧s'=s)∧∀y∈rest,∃k' c,y=Value.ref c∧IsN s.heap k' c) _ ?_ ?_ _ _ ⟨⟨rfl,rfl⟩,hy⟩
  · rintro v rest r s' ⟨⟨hr,rfl⟩,hin⟩
    obtain ⟨k',c,rfl,z⟩:=hin v List.mem_cons_self
    have more:∀y∈rest,∃k' c,y=Value.ref c∧IsN s'.heap k' c:=fun u hu=>hin u (List.mem_cons_of_mem _ hu)
    dsimp only
    by_cases hv:(b == c||(carriedByValue (.ref b)&&carriedByValue (.ref c)))=true
    · exact wp_if_pos hv (wpAny_pure ⟨⟨rfl,rfl⟩,more⟩)
    · refine wp_if_neg hv (wpAny_bind ((nestedKind P w).quiet x.kind ?_))
      simp only[Bool.not_true,Bool.false_eq_true,if_false]
      refine wpAny_bind ((nestedKind P w).quiet z.kind ?_)
      simp only[Bool.not_true,Bool.false_eq_true,if_false]
      refine wpAny_bind (yu 8 k _ x.is x.nu x.dp _ _ _ ?_)
      simp only[Bool.false_eq_true,if_false]
      refine wpAny_bind (yu 8 k' _ z.is z.nu z.dp _ _ _ ?_)
      simp only[Bool.false_eq_true,if_false]
      exact wpAny_pure ⟨⟨rfl,rfl⟩,more⟩
  · rintro ⟨r1,r2⟩ s' ⟨⟨hr,rfl⟩,_⟩
    simp only at hr
    subst hr
    exact wpAny_pure h
abbrev El:=Addr × NestedKey
def hsN (w:World) (L:List El):List Int:=L.map fun p=>p.2.hash w
def rwN (w:World) (L:List El):List (Int × Value):=L.map fun p=>(p.2.hash w,Value.ref p.1)
structure SetN (w:World) (h:Heap) (a:Addr) (L:List El) (es:Array (Int × Value)) (ep:Nat) (t:SetTable):Prop where
  ob:∃o,h.get? a=some o∧o.ExactSet∧o.data=.set es ep t
  rows:es.toList=rwN w L
  tab:Tb t (hsN w L)
  nd:(L.map (·.2)).Nodup
  el:∀p∈L,IsN h p.2 p.1
  plain:t.plain=true
  led:w.params.followText "set-order"=true∨t.led=true
  room:L.length*5<t.mask*3
  few:L.length≤306
variable {a:Addr} {L:List El} {es:Array (Int × Value)} {ep:Nat} {t:SetTable}
theorem c6 {es:Array (Int × Value)} {L:List El} (h:es.toList=rwN w L):es.size=L.length:=by
  have e:=congrArg List.length h
  unfold rwN at e
  rw[List.length_map] at e
  exact e
theorem mI {es:Array (Int × Value)} {L:List El} (h:es.toList=rwN w L) {i:Nat} {p:El} (hp:L[i]?=some p):es[i]?=some (p.2.hash w,Value.ref p.1):=by
  rw[←Array.getElem?_toList,h]
  unfold rwN
  rw[List.getElem?_map,hp]
  rfl
theorem Tb.len {hs:List Int} (T:Tb t hs):t.place.size=hs.length:=T.sz
theorem wJ {hs:List Int} (T:Tb t hs) {n:Nat} (hn:n=hs.length) (hl:n≤t.mask):t.fits n=true:=by
  have h1:=T.len
  unfold SetTable.fits SetTable.fill
  rw[T.dm,Bool.and_eq_true,beq_iff_eq,decide_eq_true_eq]
  show t.place.size=n∧t.place.size+0≤t.mask
  omega
theorem SetN.fits (R:SetN w s.heap a L es ep t):t.fits es.size=true:=by
  have h1:=c6 R.rows
  have h2:=R.room
  exact wJ R.tab (by rw[h1]; unfold hsN; rw[List.length_map]) (by omega)
theorem SetN.safe (R:SetN w s.heap a L es ep t):¬t.gaveWay=true:=by
  unfold SetTable.gaveWay
  rw[R.tab.mok.odd]
  decide
theorem sS (m:Nat):∀(n:Nat) (p:SetTable.Probe),p.dummy=none→(nth m p n).dummy=none
  | 0,_,h=>h
  | n+1,p,h=>sS m n (adv m p) (by
    unfold adv
    split
    · exact h
    · exact h)
/-- from the c-th step of the way on -/
theorem wz (R:SetN w s.heap a L es ep t) {x:Addr} {k:NestedKey} {z:Int} (hz:z=k.hash w) (hx:IsN s.heap k x) (hu:A.units+8<cLine) {K:Nat} (hKf:K<10*SetTable.turns t.mask)
    (hK:way t.mask z K∉t.place.toList) (hKb:∀c,c<K→way t.mask z c∈t.place.toList) {Q:SetFound→Shared→Prop} (yes:k∈L.map (·.2)→Q (.there none) s) (no:k∉L.map (·.2)→Q (.free (way t.mask z K) false) s) :
    ∀(f c:Nat) (st:Option SetTable.Probe),st.getD (t.probeStart z)=nth t.mask (wy t.mask z) c→c≤K→K - c<f→
      (∀(i:Nat) (p:El),L[i]?=some p→p.2=k→∃d,c≤d∧d<K∧t.place.toList[i]?=some (way t.mask z d))→wpAny (model P w) A (setSearchFrom a (.ref x) z true f st) Q E s:=by
  obtain ⟨o,ho,hex,hd⟩:=R.ob
  have hash_i:∀(i:Nat) (p:El),L[i]?=some p→(es[i]?.map (·.1)).getD 0=p.2.hash w:=fun i p hp=>by rw[mI R.rows hp]; rfl
  have ln:t.place.toList.length=L.length:=by
    have:=R.tab.sz
    unfold hsN at this
    rw[List.length_map] at this
    exact this
  intro f
  induction f with
  | zero=>intro c st _ _ hf; omega
  | succ f ih=>
    intro c st hst hc hf hre
    obtain ⟨q0,hq0⟩:∃q0,q0=nth t.mask (wy t.mask z) c:=⟨_,rfl⟩
    have at_:∀q,(nth t.mask q0 q).j=way t.mask z (c+q):=fun q=>by
      rw[hq0,←nth_add]
    have spec:=go_spec t R.tab.ris R.tab.dm (fun i=>(es[i]?.map (·.1)).getD 0) z (10*SetTable.turns t.mask) (K - c) q0 (by rw[hq0]; exact sS _ _ _ rfl) (by omega) (fun q hq=>by rw[at_]; exact hKb _ (by omega)) (by rw[at_,show c+(K - c)=K by omega]; exact hK)
    rw[setSearchFrom_succ]
    refine wpAny_bind (wpAny_setState_of ho hd R.fits ?_)
    dsimp only
    refine wp_if_neg R.safe ?_
    refine wpAny_bind (wpAny_pure ?_)
    rw[hst,←hq0]
    rcases spec with ⟨q,i,hq,hi,hh,hno,hpr⟩|⟨hno,hpr⟩
    · have hpr:t.probe (fun i=>(es[i]?.map (·.1)).getD 0) z q0=_:=hpr
      rw[hpr]
      dsimp only
      rw[at_] at hi
      have hil:i<L.length:=by rw[←ln]; exact (List.getElem?_eq_some_iff.mp hi).1
      obtain ⟨p,hp⟩:∃p,L[i]?=some p:=⟨_,List.getElem?_eq_getElem hil⟩
      have pm:p∈L:=List.mem_of_getElem? hp
      have rest:wpAny (model P w) A (searchRest a (.ref x) z true f es t (nth t.mask q0 q).j i (nth t.mask q0 (q+1))) Q E s:=by
        unfold searchRest
        rw[mI R.rows hp]
        dsimp only
        refine wpAny_bind (wpAny_holding ((nestedKind P w).eqBool hu (R.el p pm).kind hx.kind ?_))
        refine wpAny_bind (wpAny_setState_of ho hd R.fits ?_)
        dsimp only
        by_cases hkk:p.2=k
        · exact wp_if_pos (by simp[hkk]) (wpAny_pure (yes (List.mem_map.mpr ⟨p,pm,hkk⟩)))
        · refine wp_if_neg (by simp[hkk]) ?_
          refine wpAny_bind (wpAny_pure ?_)
          rw[sameMem]
          dsimp only
          have hsl:t.slot (way t.mask z (c+q))=.live i:=slot_live R.tab.ris hi
          simp only[if_true,at_,hsl,mI R.rows hp]
          refine wpAny_bind (wpAny_isSame_ref_self (wpAny_bind (wpAny_pure ?_)))
          simp only[if_true]
          refine wp_if_neg (by simp[hkk]) ?_
          refine ih (c+(q+1)) _ (by rw[Option.getD_some,hq0,←nth_add]) (by omega) (by omega) fun i2 p2 h2 hk2=>?_
          obtain ⟨d,d1,d2,d3⟩:=hre i2 p2 h2 hk2
          refine ⟨d,?_,d2,d3⟩
          by_cases hlt:d<c+q
          · refine absurd ((hash_i i2 p2 h2).trans (by rw[hk2,hz])) (hno (d - c) i2 (by omega) ?_)
            rw[at_,show c+(d - c)=d by omega]
            exact d3
          · by_cases he:d=c+q
            · rw[he] at d3
              have s2:=slot_live R.tab.ris d3
              rw[hsl] at s2
              injection s2 with s2
              rw[←s2,hp] at h2
              cases h2
              exact absurd hk2 hkk
            · omega
      by_cases hl:t.led=true
      · refine wp_if_neg (by simp[hl]) ?_
        refine wpAny_bind (wpAny_pure ?_)
        exact rest
      · refine wp_if_pos (by simp[hl]) ?_
        refine wpAny_bind (unseen hx (fun y hy=>?_) _ _ _ ?_)
        · obtain ⟨e,he,rfl⟩:=List.mem_map.mp hy
          have he2:e∈es.toList:=by
            have:e∈es∧e.1=z:=by simpa using he
            simpa using this.1
          rw[R.rows] at he2
          obtain ⟨p2,hp2,rfl⟩:=List.mem_map.mp he2
          exact ⟨p2.2,p2.1,rfl,R.el p2 hp2⟩
        · refine wp_if_neg (by decide) ?_
          refine wpAny_bind (wpAny_pure ?_)
          exact rest
    · have hpr:t.probe (fun i=>(es[i]?.map (·.1)).getD 0) z q0=_:=hpr
      rw[hpr,at_,show c+(K - c)=K by omega]
      dsimp only
      refine wpAny_pure (no fun hm=>?_)
      obtain ⟨p2,h2,hk2⟩:=List.mem_map.mp hm
      obtain ⟨i2,hi2,e2⟩:=List.getElem_of_mem h2
      have h2:L[i2]?=some p2:=by rw[List.getElem?_eq_getElem hi2,e2]
      obtain ⟨d,d1,d2,d3⟩:=hre i2 p2 h2 hk2
      refine hno (d - c) i2 (by omega) ?_ ((hash_i i2 p2 h2).trans (by rw[hk2,hz]))
      rw[at_,show c+(d - c)=d by omega]
      exact d3
/-- what adding asks -/
theorem look (R:SetN w s.heap a L es ep t) {x:Addr} {k:NestedKey} {z:Int} (hz:z=k.hash w) (hx:IsN s.heap k x) (hu:A.units+8<cLine) {Q:SetFound→Shared→Prop} (yes:k∈L.map (·.2)→Q (.there none) s)
    (no:∀K,k∉L.map (·.2)→way t.mask z K∉t.place.toList→(∀c,c<K→way t.mask z c∈t.place.toList)→Q (.free (way t.mask z K) false) s):wpAny (model P w) A (setSearch a (.ref x) z true) Q E s:=by
  have hroom:=R.room
  have hle:=R.tab.mok.le
  obtain ⟨K,hKf,hK,hKb⟩:=R.tab.first (by unfold hsN; rw[List.length_map]; omega) z
  have ht:10*SetTable.turns t.mask≤99999:=by
    unfold SetTable.turns
    omega
  unfold setSearch
  refine wz R hz hx hu hKf hK hKb yes (fun hn=>no K hn hK hKb) 100000 0 none rfl (Nat.zero_le _) (by omega) fun i p hp hk=>?_
  have hi:(hsN w L)[i]?=some z:=by
    unfold hsN
    rw[List.getElem?_map,hp,hz,←hk]
    rfl
  have hil:i<t.place.toList.length:=by
    rw[R.tab.sz]
    exact (List.getElem?_eq_some_iff.mp hi).1
  have hj:=List.getElem?_eq_getElem hil
  obtain ⟨d,hd,e⟩:=R.tab.ahead hK hi hj
  exact ⟨d,Nat.zero_le _,hd,by rw[hj,e]⟩
end
end SN
namespace SN
open PySem PySem.Spec PyProof.Rows L2
section
variable {P:Program} {w:World} {A:Around} {E:Value→Shared→Prop} {s:Shared} {a:Addr} {L:List El} {es:Array (Int × Value)} {ep:Nat} {t:SetTable}
theorem w8 (order:Array Nat) (hr:es.toList=rwN w L) (hp:order.toList.Perm (List.range L.length)) :
    ∃L2,(order.filterMap (es[·]?)).toList=rwN w L2∧L2.Perm L∧hsN w L2=order.toList.map fun i=>(es.map (·.1)).getD i 0:=by
  have sz:=c6 hr
  have at_:∀i,(h:i<L.length)→es[i]?=some (L[i].2.hash w,Value.ref L[i].1):=fun i h=>mI hr (List.getElem?_eq_getElem h)
  have run:∀l:List Nat,(∀i∈l,i<L.length)→l.filterMap (fun i=>es[i]?)=rwN w (l.filterMap fun i=>L[i]?)∧hsN w (l.filterMap fun i=>L[i]?)=l.map fun i=>(es.map (·.1)).getD i 0:=by
    intro l
    induction l with
    | nil=>intro _; exact ⟨rfl,rfl⟩
    | cons i l ih=>
      intro hl
      have hi:=hl i List.mem_cons_self
      obtain ⟨e1,e2⟩:=ih fun j hj=>hl j (List.mem_cons_of_mem _ hj)
      have g:(es.map (·.1)).getD i 0=L[i].2.hash w:=by
        have:(es.map (·.1))[i]?=some (L[i].2.hash w):=by rw[Array.getElem?_map,at_ i hi]; rfl
        simp[Array.getD_eq_getD_getElem?,this]
      rw[List.filterMap_cons_some (at_ i hi),List.filterMap_cons_some (List.getElem?_eq_getElem hi),e1]
      refine ⟨rfl,?_⟩
      rw[List.map_cons,g,←e2]
      rfl
  obtain ⟨e1,e2⟩:=run order.toList fun i hi=>List.mem_range.mp (hp.mem_iff.mp hi)
  refine ⟨_,by rw[Array.toList_filterMap]; exact e1,?_,e2⟩
  have all:∀n,n≤L.length→(List.range n).filterMap (fun i=>L[i]?)=L.take n:=by
    intro n
    induction n with
    | zero=>intro _; rfl
    | succ n ih=>
      intro hn
      rw[List.range_succ,List.filterMap_append,ih (by omega),List.take_add_one,List.getElem?_eq_getElem (show n<L.length from hn),List.filterMap_cons_some (List.getElem?_eq_getElem (show n<L.length from hn))]
      rfl
  have h:=hp.filterMap fun i=>L[i]?
  rw[all L.length (Nat.le_refl _),List.take_length] at h
  exact h
/-- laid anew -/
theorem relay {o:Obj} (ho:s.heap.get? a=some o) (hex:o.ExactSet) (hd:o.data=.set es ep t) (hrows:es.toList=rwN w L) (T:Tb t (hsN w L)) (hfl:L.length≤t.mask) (nd:(L.map (·.2)).Nodup) (el:∀p∈L,IsN s.heap p.2 p.1) (pl:t.plain=true)
    (ld:w.params.followText "set-order"=true∨t.led=true) (few:L.length≤306) {wanted M:Nat} (hw:SetTable.sizeAbove wanted=M+1) (hM:Mk M) (hn:L.length*5<M*3) {Q:Unit→Shared→Prop}
    (hQ:∀h' L' es' ep' t',Heap.SameBut a s.heap h'→SetN w h' a L' es' ep' t'→L'.Perm L→Q () { s with heap:=h' }):wpAny (model P w) A (setRelay a wanted) Q E s:=by
  have sl:=c6 hrows
  have hMl:=hM.le
  obtain ⟨t2,order,e,hp,T2,em,el2,ep2⟩:=yt t (hs:=es.map (·.1)) (wanted:=wanted) (M:=M) (by rw[hw]; rfl) hM (by rw[Array.size_map,sl]; omega)
  rw[Array.size_map,sl] at hp
  obtain ⟨L2,r1,r2,r3⟩:=w8 (w:=w) order hrows hp
  rw[←r3] at T2
  have s2:=c6 r1
  rw[setRelay_eq]
  refine wpAny_bind (wpAny_setState_of ho hd (wJ T (by rw[sl]; unfold hsN; rw[List.length_map]) (by omega)) ?_)
  dsimp only
  refine wp_if_neg (by rw[sizeLine_eq,hw]; omega) ?_
  rw[e]
  dsimp only
  refine wpAny_bind ?_
  refine wp_if_neg (by rw[s2,r2.length_eq,sl]; simp) ?_
  refine wpAny_pure ?_
  dsimp only
  refine wpAny_storeSet_of ho hd ?_ (by rw[s2,r2.length_eq,sizeLine_eq]; omega)
  have sb:Heap.SameBut a s.heap (s.heap.update a (Obj.putSet (order.filterMap (es[·]?)) t2)):=Heap.SameBut.update ..
  exact hQ _ L2 _ (ep+1) t2 sb ⟨⟨_,store_at ho hd,⟨hex.1,hex.2.1,hex.2.2⟩,rfl⟩,r1,T2,(r2.map (·.2)).nodup_iff.mpr nd,fun p hpm=>(el p (r2.mem_iff.mp hpm)).beside ho hd sb,by rw[ep2]; exact pl,by rw[el2]; exact ld,by rw[r2.length_eq,em]; exact hn,by rw[r2.length_eq]; exact few⟩ r2
/-- one added -/
theorem add (R:SetN w s.heap a L es ep t) {x:Addr} {k:NestedKey} {z:Int} (hz:z=k.hash w) (hx:IsN s.heap k x) (hu:A.units+8<cLine) (few:L.length+1≤306) {Q:Bool→Shared→Prop}
    (hQ:∀b h' L' es' ep' t',Heap.SameBut a s.heap h'→SetN w h' a L' es' ep' t'→(k∈L.map (·.2)→L'=L)→(k∉L.map (·.2)→L'.Perm ((x,k)::L))→Q b { s with heap:=h' }):wpAny (model P w) A (setAddHashed a (.ref x) z) Q E s:=by
  obtain ⟨o,ho,hex,hd⟩:=R.ob
  have sl:=c6 R.rows
  have hroom:=R.room
  unfold setAddHashed
  refine wpAny_holding ?_
  rw[show (100000:Nat)=99999+1 from rfl,setAddHashedIn_succ]
  refine wpAny_bind (wpAny_setState_of ho hd R.fits ?_)
  dsimp only
  refine wp_if_neg (by simp[byScan,Value.scannable]) ?_
  refine wpAny_bind (look R hz hx hu (fun hm=>?_) fun K hm hK hb=>?_)
  · dsimp only
    exact wpAny_pure (hQ false s.heap L es ep t (Heap.SameBut.refl a s.heap) R (fun _=>rfl) fun h=>absurd hm h)
  · dsimp only
    refine wpAny_bind (wpAny_setState_of ho hd R.fits ?_)
    dsimp only
    obtain ⟨j,hj⟩:∃j,j=way t.mask z K:=⟨_,rfl⟩
    obtain ⟨p,hp⟩:∃p,p=SetTable.below t.place j:=⟨_,rfl⟩
    obtain ⟨q1,q2,q3,q4,q5,q6,q7⟩:=R.tab.put hK hb hj hp
    rw[←hj]
    have pl1:(t.put j).1.plain=true:=by rw[q6]; exact R.plain
    have ld1:w.params.followText "set-order"=true∨(t.put j).1.led=true:=by rw[q5]; exact R.led
    generalize t.put j=pt at q1 q3 q4 q5 q6 q7 pl1 ld1 ⊢
    obtain ⟨t1,p2⟩:=pt
    dsimp only at q1 q3 q4 q5 q6 q7 pl1 ld1 ⊢
    subst q1
    unfold hsN at q2
    rw[List.length_map] at q2
    refine wp_if_pos pl1 ?_
    refine wpAny_bind (AZ 8 k _ hx.is hx.nu hx.dp _ _ _ ?_)
    simp only[if_true]
    obtain ⟨L1,hL1⟩:∃L1,L1=L.take p2++(x,k)::L.drop p2:=⟨_,rfl⟩
    have pm:L1.Perm ((x,k)::L):=by rw[hL1]; exact put_perm L p2 (x,k)
    have ln:L1.length=L.length+1:=pm.length_eq
    have rows1:(SetTable.insertAt es p2 (z,Value.ref x)).toList=rwN w L1:=by
      rw[SetTable.toList_insertAt,R.rows,hL1,hz]
      unfold rwN
      rw[List.map_append,List.map_cons,List.map_take,List.map_drop]
    have hsh:(hsN w L).take p2++z::(hsN w L).drop p2=hsN w L1:=by
      rw[hL1,hz]
      unfold hsN
      rw[List.map_append,List.map_cons,List.map_take,List.map_drop]
    rw[hsh] at q3
    have nd1:(L1.map (·.2)).Nodup:=(pm.map (·.2)).nodup_iff.mpr (List.nodup_cons.mpr ⟨hm,R.nd⟩)
    generalize SetTable.insertAt es p2 (z,Value.ref x)=es1 at rows1 ⊢
    have sl1:=c6 rows1
    refine wpAny_bind (wpAny_storeSet_of ho hd ?_ (by rw[sl1,ln,sizeLine_eq]; omega))
    have sb:Heap.SameBut a s.heap (s.heap.update a (Obj.putSet es1 t1)):=Heap.SameBut.update ..
    have ho1:=store_at (es':=es1) (t':=t1) ho hd
    generalize s.heap.update a (Obj.putSet es1 t1)=h1 at sb ho1 ⊢
    have el1:∀p∈L1,IsN h1 p.2 p.1:=fun p hp=>by
      rcases List.mem_cons.mp (pm.mem_iff.mp hp) with rfl|hp
      · exact hx.beside ho hd sb
      · exact (R.el p hp).beside ho hd sb
    have fill1:t1.fill=L.length+1:=by
      rw[q7]
      unfold hsN
      rw[List.length_map]
    by_cases hf:t1.tooFull=true
    · refine wp_if_pos (by simp[hf]) ?_
      refine wpAny_bind ?_
      have full:(L.length+1)*5≥t1.mask*3:=by
        unfold SetTable.tooFull at hf
        rw[decide_eq_true_eq,fill1] at hf
        exact hf
      rw[sl]
      have go:∀M,SetTable.sizeAbove (SetTable.grown (L.length+1))=M+1→Mk M→(L.length+1)*5<M*3→wpAny (model P w) A (setRelay a (SetTable.grown (L.length+1))) (fun _ s'=>wpAny (model P w) A (pure true) Q E s') E { s with heap:=h1 }:=fun M g1 g2 g3=>by
        refine relay (s:={ s with heap:=h1 }) ho1 ⟨hex.1,hex.2.1,hex.2.2⟩ rfl rows1 q3 (by rw[ln,q4]; have:=R.tab.mok.cs; omega) nd1 el1 pl1 ld1 (by omega) g1 g2 (by rw[ln]; exact g3) ?_
        intro h2 L2 es2 ep2 t2 sb2 R2 pm2
        exact wpAny_pure (hQ true h2 L2 es2 ep2 t2 (sb.trans sb2) R2 (fun h=>absurd h hm) fun _=>pm2.trans pm)
      have G:=grow4
      rw[q4] at full
      rcases R.tab.mok.cs with e|e|e|e
      · have e2:L.length=4:=by omega
        exact go 31 (by rw[e2]; exact G.1) ⟨.inr (.inl rfl)⟩ (by omega)
      · have e2:L.length=18:=by omega
        exact go 127 (by rw[e2]; exact G.2.1) ⟨.inr (.inr (.inl rfl))⟩ (by omega)
      · have e2:L.length=76:=by omega
        exact go 511 (by rw[e2]; exact G.2.2) ⟨.inr (.inr (.inr rfl))⟩ (by omega)
      · omega
    · refine wp_if_neg (by simp[hf]) ?_
      refine wpAny_pure (hQ true h1 L1 es1 (ep+1) t1 sb ⟨⟨_,ho1,⟨hex.1,hex.2.1,hex.2.2⟩,rfl⟩,rows1,q3,nd1,el1,pl1,ld1,?_,by omega⟩ (fun h=>absurd h hm) fun _=>pm)
      unfold SetTable.tooFull at hf
      rw[decide_eq_true_eq,fill1] at hf
      rw[ln]
      omega
/-- the first ones of their kinds -/
def fQ {α:Type} (f:α→NestedKey):List α→List α→List α
  | acc,[]=>acc
  | acc,x::xs=>fQ f (if f x∈acc.map f then acc else acc++[x]) xs
theorem sT {α:Type} (f:α→NestedKey) (x:α):∀(xs acc:List α),fQ f acc (xs++[x])=if f x∈(fQ f acc xs).map f then fQ f acc xs else fQ f acc xs++[x]
  | [],acc=>rfl
  | y::xs,acc=>sT f x xs _
theorem qZ {α:Type} (f:α→NestedKey):∀(xs acc:List α),∀p∈fQ f acc xs,p∈acc∨p∈xs
  | [],acc,p,h=>.inl h
  | x::xs,acc,p,h=>by
    rcases qZ f xs _ p h with h|h
    · split at h
      · exact .inl h
      · rcases List.mem_append.mp h with h|h
        · exact .inl h
        · exact .inr (by rw[List.mem_singleton.mp h]; exact List.mem_cons_self)
    · exact .inr (List.mem_cons_of_mem _ h)
theorem jy {α:Type} (f:α→NestedKey):∀(xs acc:List α) (k:NestedKey),k∈acc.map f∨k∈xs.map f→k∈(fQ f acc xs).map f
  | [],acc,k,h=>by
    rcases h with h|h
    · exact h
    · cases h
  | x::xs,acc,k,h=>by
    refine jy f xs _ k ?_
    by_cases c:f x∈acc.map f
    · rw[if_pos c]
      rcases h with h|h
      · exact .inl h
      · rcases List.mem_cons.mp h with rfl|h
        · exact .inl c
        · exact .inr h
    · rw[if_neg c]
      rcases h with h|h
      · exact .inl (by rw[List.map_append]; exact List.mem_append_left _ h)
      · rcases List.mem_cons.mp h with rfl|h
        · exact .inl (by rw[List.map_append]; exact List.mem_append_right _ List.mem_cons_self)
        · exact .inr h
theorem u9 {α:Type} (f:α→NestedKey):∀(xs acc:List α),(acc.map f).Nodup→((fQ f acc xs).map f).Nodup
  | [],acc,h=>h
  | x::xs,acc,h=>u9 f xs _ (by
    split
    · exact h
    · rename_i c
      rw[List.map_append,List.nodup_append]
      refine ⟨h,by simp,fun a ha b hb e=>c ?_⟩
      simp at hb
      rw[←hb,←e]
      exact ha)
theorem wK {α β:Type} (f:β→NestedKey) (g:α→β):∀(xs acc:List α),fQ f (acc.map g) (xs.map g)=(fQ (fun a=>f (g a)) acc xs).map g
  | [],acc=>rfl
  | x::xs,acc=>by
    show fQ f (if f (g x)∈(acc.map g).map f then acc.map g else acc.map g++[g x]) (xs.map g)=(fQ (fun a=>f (g a)) (if f (g x)∈acc.map (fun a=>f (g a)) then acc else acc++[x]) xs).map g
    rw[←wK f g xs]
    have e:(acc.map g).map f=acc.map fun a=>f (g a):=List.map_map
    rw[e]
    split
    · rfl
    · rw[List.map_append]
      rfl
/-- what the set has of the first i things -/
structure Hd (ks:List El) (i:Nat) (L:List El):Prop where
  pm:L.Perm (fQ (·.2) [] (ks.take i))
theorem Hd.sub {ks L:List El} {i:Nat} (g:Hd ks i L):∀p∈L,p∈ks.take i:=fun p hp=>by
  rcases qZ _ _ _ p (g.pm.mem_iff.mp hp) with h|h
  · cases h
  · exact h
theorem Hd.nd {ks L:List El} {i:Nat} (g:Hd ks i L):(L.map (·.2)).Nodup:=(g.pm.map (·.2)).nodup_iff.mpr (u9 (fun p:El=>p.2) _ [] (by simp))
theorem few_of {ks L:List El} {n:Nat} (hs:∀p∈L,p∈ks) (nd:(L.map (·.2)).Nodup) (D:List NestedKey) (hD:D.length≤n) (hk:∀p∈ks,p.2∈D):L.length≤n:=by
  have:∀(l D:List NestedKey),l.Nodup→(∀x∈l,x∈D)→l.length≤D.length:=by
    intro l
    induction l with
    | nil=>intro D _ _; exact Nat.zero_le _
    | cons x l ih=>
      intro D nd h
      rw[List.nodup_cons] at nd
      have hx:=h x List.mem_cons_self
      have:=ih (D.erase x) nd.2 fun y hy=>(List.mem_erase_of_ne fun e=>nd.1 (by rw[←e]; exact hy)).mpr (h y (List.mem_cons_of_mem _ hy))
      rw[List.length_erase_of_mem hx] at this
      have:=List.length_pos_of_mem hx
      rw[List.length_cons]
      omega
  have h:=this (L.map (·.2)) D nd fun x hx=>by
    obtain ⟨p,hp,rfl⟩:=List.mem_map.mp hx
    exact hk p (hs p hp)
  rw[List.length_map] at h
  omega
/-- a new set -/
theorem fresh {h:Heap} (ho:h.get? a=some { cls:=.type "set",dict:=none,data:=.set #[] 0 (.fresh 0 0 (!w.params.followText "set-order")) }):SetN w h a [] #[] 0 (.fresh 0 0 (!w.params.followText "set-order")) where
  ob:=⟨_,ho,⟨rfl,rfl,rfl⟩,rfl⟩
  rows:=rfl
  tab:=⟨.nil,rfl,rfl,⟨.inl rfl⟩,nofun,fun i h j hi=>nomatch hi⟩
  nd:=.nil
  el:=nofun
  plain:=rfl
  led:=by
    cases hc:w.params.followText "set-order" with
    | true=>exact .inl rfl
    | false=>exact .inr rfl
  room:=by
    show 0*5<7*3
    decide
  few:=Nat.zero_le _
/-- the loop of set.update; the things are of at most 306 kinds -/
theorem sU {I:Addr} {fp wr:List Addr} {G:Array GenState→Array GenState→Prop} {n:Nat} {Pv:Nat→Value→Prop} {St:Nat→Shared→Prop} {R:Result→Shared→Prop}
    (W:WalksS P w A.in1 I fp wr G n Pv St) (S:Addr) (hSf:S∉fp) (ks:List El) (hn:n=ks.length) (D:List NestedKey) (hD:D.length≤305) (hkD:∀p∈ks,p.2∈D) (hval:∀i v,Pv i v→∃p,ks[i]?=some p∧v=.ref p.1)
    (h0:Heap) (hk:∀p∈ks,IsN h0 p.2 p.1) (hS0:h0.get? S=none) (hw0:∀b∈wr,h0.get? b=none) (hu:A.in1.units+8<cLine) :
    ∀(k i:Nat) (s:Shared),n - i=k→i≤n→St i s→(∀b o,h0.get? b=some o→s.heap.get? b=some o)→(∃L es ep t,SetN w s.heap S L es ep t∧Hd ks i L)→
      (∀s' L es ep t,Moved (S::wr) G s s'→SetN w s'.heap S L es ep t→Hd ks n L→(∀b o,h0.get? b=some o→s'.heap.get? b=some o)→R (.ok (.ret .none)) s')→
      codeAny (model P w) A (.builtin "set.update.loop" ⟨[.ref S,.ref I],[]⟩) R s:=by
  have hSw:S∉wr:=fun h=>hSf (W.sub _ h)
  have inc:∀b∈wr,b∈S::wr:=fun b hb=>List.mem_cons_of_mem _ hb
  have kept:∀ {s s':Shared},Moved wr G s s'→(∀b o,h0.get? b=some o→s.heap.get? b=some o)→∀b o,h0.get? b=some o→s'.heap.get? b=some o:=fun hm hkp b o e=>hm.heap b o (fun hb=>by rw[hw0 b hb] at e; cases e) (hkp b o e)
  have re:∀ {s':Shared} {s:Shared} {L es ep t i},SetN w s.heap S L es ep t→Hd ks i L→Moved wr G s s'→(∀b o,h0.get? b=some o→s'.heap.get? b=some o)→SetN w s'.heap S L es ep t:=fun {s' s L es ep t i} hS g hm hkp=>by
    obtain ⟨o,ho,r⟩:=hS.ob
    exact ⟨⟨o,hm.heap S o hSw ho,r⟩,hS.rows,hS.tab,hS.nd,fun p hp=>(hk p (List.mem_of_mem_take (g.sub p hp))).more hkp,hS.plain,hS.led,hS.room,hS.few⟩
  intro k
  induction k with
  | zero=>
    intro i s hk' hi hst hkp ⟨L,es,ep,t,hS,g⟩ hR
    obtain rfl:i=n:=by omega
    refine codeAny_builtin F.entry_set_update_loop ?_
    rw[Around.under_plainId F.plain_set_update_loop _]
    show wpAny _ A.in1 (pyNext (.ref I) >>= _) _ _ s
    refine wpAny_bind (W.done s _ _ hst fun s' hm=>?_)
    show wpAny _ A.in1 (ret Value.none) _ _ s'
    exact wpAny_pure (hR s' L es ep t (hm.mono inc) (re hS g hm (kept hm hkp)) g (kept hm hkp))
  | succ k ih=>
    intro i s hk' hi hst hkp ⟨L,es,ep,t,hS,g⟩ hR
    have hlt:i<n:=by omega
    refine codeAny_builtin F.entry_set_update_loop ?_
    rw[Around.under_plainId F.plain_set_update_loop _]
    show wpAny _ A.in1 (pyNext (.ref I) >>= _) _ _ s
    refine wpAny_bind (W.item i s _ _ hlt hst fun v s' hP hst' hm=>?_)
    obtain ⟨p,hp,rfl⟩:=hval i v hP
    have hkp':=kept hm hkp
    have hS':=re hS g hm hkp'
    have hx:IsN s'.heap p.2 p.1:=(hk p (List.mem_of_getElem? hp)).more hkp'
    have lf:L.length≤305:=few_of (fun q hq=>List.mem_of_mem_take (g.sub q hq)) g.nd D hD hkD
    show wpAny _ A.in1 (holding [Value.ref p.1] (setAdd S (.ref p.1)) >>= _) _ _ s'
    refine wpAny_bind (wpAny_holding ?_)
    unfold setAdd
    refine wpAny_holding ?_
    refine wpAny_bind ((nestedKind P w).pyHash hu hx.kind ?_)
    refine add (s:={ s' with toks:=s'.toks+p.2.draws }) (k:=p.2) hS' rfl hx hu (by omega) fun b h' L' es' ep' t' hsb hS2 c1 c2=>?_
    have tk:ks.take (i+1)=ks.take i++[p]:=by rw[List.take_add_one,hp]; rfl
    have g':Hd ks (i+1) L':=by
      constructor
      rw[tk,sT]
      have mi:=(g.pm.map (·.2)).mem_iff (a:=p.2)
      by_cases c:p.2∈L.map (·.2)
      · rw[c1 c,if_pos (mi.mp c)]
        exact g.pm
      · rw[if_neg fun z=>c (mi.mpr z)]
        exact ((c2 c).trans (g.pm.cons (p.1,p.2))).trans (List.perm_append_singleton _ _).symm
    have hkp2:∀b o,h0.get? b=some o→h'.get? b=some o:=fun b o e=>(hsb.2 b (fun z=>by rw[z,hS0] at e; cases e)).trans (hkp' b o e)
    refine wpAny_pure ⟨plainId_quiet F.plain_set_update_loop _,ih (i+1) _ (by omega) hlt (W.frame _ s' _ _ hst' (Nat.le_add_right _ _) fun b hb o e=>?_) hkp2 ⟨L',es',ep',t',hS2,g'⟩ fun s'' L2 es2 ep2 t2 hm'' hS'' g'' hkp''=>?_⟩
    · rw[hsb.2 b fun z=>hSf (z▸hb)]
      exact e
    · refine hR s'' L2 es2 ep2 t2 (Moved.trans W.gtrans ((hm.mono inc).then_heap (Nat.le_add_right _ _) fun b o hb e=>?_) hm'') hS'' g'' hkp''
      rw[hsb.2 b fun z=>hb (z▸List.mem_cons_self)]
      exact e
end
end SN
namespace SN
open PySem PySem.Spec PyProof.Rows L2
section
variable {P:Program} {w:World} {A:Around} {E:Value→Shared→Prop} {s:Shared}
set_option maxRecDepth 100000 in
set_option maxHeartbeats 3200000 in
theorem set_list {l:Addr} {items:Array Value} (ks:List El) (D:List NestedKey) (hD:D.length≤305) (hkD:∀p∈ks,p.2∈D) {Q:Value→Shared→Prop} (hh:A.handled=none) (hl:s.heap.IsList l items) (hit:items.toList=ks.map fun p=>Value.ref p.1)
    (hk:∀p∈ks,IsN s.heap p.2 p.1) (hu:A.units+11<cLine) (h:∀(h':Heap) (tk:Nat) (L:List El) (es:Array (Int × Value)) (ep:Nat) (t:SetTable),SetN w h' s.heap.objs.size L es ep t→Hd ks ks.length L→(∀b o,s.heap.get? b=some o→h'.get? b=some o)→Q (.ref s.heap.objs.size) { s with heap:=h',toks:=tk }) :
    wpAny (model P w) A (call (.type "set") [.ref l]) Q E s:=by
  have isz:items.size=ks.length:=by
    have q:=congrArg List.length hit
    rw[List.length_map] at q
    exact q
  obtain ⟨c,tl,mro⟩:=F.called_set.mro
  have made:=F.called_set.made
  have sub:=F.called_set.sub
  refine wpAny_call (codeAny_of_tree ?_)
  show wpAny _ _ (callAny (.type "set") _) _ _ _
  refine wpAny_pure ⟨Code.quiet_builtin _ (by decide +kernel),codeAny_builtin F.entry_type_call ?_⟩
  rw[Around.under_plain (weight_type_call_type "set" [.ref l] []) rfl]
  have a1:=F.called_set.notType
  have a2:=F.called_set.canCreate
  have a3:=F.typeCall_set_1 (.ref l)
  repeat (any_goals (first|assumption|wp_step))
  refine codeAny_mono (code_set_led1 (.ref l) (E:=E) (Q₁:=fun b s₁=>b=.ref s.heap.objs.size∧s₁={ s with heap:=s.heap.push { cls:=.type "set",dict:=none,data:=.set #[] 0 (.fresh 0 0 (!w.params.followText "set-order")) } }) ⟨rfl,rfl⟩) fun r s₁ hr=>?_
  cases r with
  | error e=>exact hr
  | ok fl=>
    cases fl with
    | next=>exact hr.elim
    | brk=>exact hr.elim
    | cont=>exact hr.elim
    | ret b=>
      obtain ⟨rfl,rfl⟩:=hr
      obtain ⟨h1,eh1⟩:∃h1,h1=s.heap.push { cls:=.type "set",dict:=none,data:=.set #[] 0 (.fresh 0 0 (!w.params.followText "set-order")) }:=⟨_,rfl⟩
      rw[←eh1]
      have z1:h1.objs.size=s.heap.objs.size+1:=by rw[eh1]; exact Heap.size_push ..
      have hS:h1.get? s.heap.objs.size=some { cls:=.type "set",dict:=none,data:=.set #[] 0 (.fresh 0 0 (!w.params.followText "set-order")) }:=by rw[eh1]; exact Heap.get?_push_size _ rfl
      have k1:∀b o,s.heap.get? b=some o→h1.get? b=some o:=fun b o e=>by rw[eh1]; exact Heap.get?_push_of_some _ e
      have hT:Shared.TypeIs { s with heap:=h1 } (.ref s.heap.objs.size) "set":=⟨_,hS,rfl⟩
      have a4:=F.called_set.init.lookup
      have a5:=F.called_set.init.bind (.ref s.heap.objs.size)
      repeat (any_goals (first|assumption|wp_step))
      refine codeAny_mono (codeAny_call_builtin (R:=wants (fun r s₂=>r=.none∧∃h' tk L es ep t,s₂={ s with heap:=h',toks:=tk }∧SetN w h' s.heap.objs.size L es ep t∧Hd ks ks.length L∧(∀b o,s.heap.get? b=some o→h'.get? b=some o)) E) F.called_set.init.plain F.entry_set_init (check_set_init_1 hT ?_)) fun r₂ s₂ hr₂=>?_
      · obtain ⟨ol,hol,hcl,nl,hdl⟩:=hl
        obtain ⟨ocls,odict,odata,oslots⟩:=ol
        simp only at hcl hdl
        subst hcl
        subst hdl
        have hol1:=k1 _ _ hol
        have b1:=F.sub_list_set
        have b2:=F.sub_list_frozenset
        have b3:(Value.type "list" == Value.type "dict")=false:=by decide
        have hl1:h1.IsList l items:=⟨_,hol1,rfl,nl,rfl⟩
        unfold Builtin.«set.__init__» noKeywords Builtin.Frozenset.updateFrom
        generalize hPI:pyIter=PI
        wp_walk
        subst hPI
        refine wpAny_pyIter_list hl1 ?_
        refine wpAny_bind (wpAny_runValue ?_)
        have lS:l<s.heap.objs.size:=Heap.lt_size hol
        have h3:A.in1.in1.in1.handled=none:=by simp[hh]
        have nI:l≠h1.objs.size:=by rw[z1]; exact Nat.ne_of_lt (Nat.lt_succ_of_lt lS)
        have nf:s.heap.objs.size∉[h1.objs.size,l]:=by
          rw[z1]
          intro z
          rcases List.mem_cons.mp z with z|z
          · exact absurd z (Nat.ne_of_lt (Nat.lt_succ_self _))
          · exact Nat.ne_of_gt lS (List.mem_singleton.mp z)
        have hval:∀(i:Nat) (v:Value),items[i]?=some v→∃p,ks[i]?=some p∧v=.ref p.1:=fun i v hv=>by
          rw[←Array.getElem?_toList,hit,List.getElem?_map] at hv
          obtain ⟨p,e1,e2⟩:=Option.map_eq_some_iff.mp hv
          exact ⟨p,e1,e2.symm⟩
        have none_of:∀b,s.heap.objs.size≤b→s.heap.get? b=none:=fun b hb=>by
          cases q:s.heap.get? b with
          | none=>rfl
          | some o=>exact absurd (Heap.lt_size q) (Nat.not_lt_of_le hb)
        refine sU ((Walks.list h3 _ l nI items).toS) s.heap.objs.size nf ks isz D hD hkD hval s.heap hk (none_of _ (Nat.le_refl _)) (fun b hb=>none_of b (by rw[List.mem_singleton.mp hb,z1]; exact Nat.le_succ _)) (by show A.units+1+1+1+8<cLine; omega) (items.size - 0) 0 _ (by omega) (Nat.zero_le _)
          ⟨⟨_,Heap.get?_push_size _ rfl,rfl,rfl⟩,(hl1.push _)⟩ (fun b o e=>Heap.get?_push_of_some _ (k1 b o e)) ?st ?go
        case st=>exact ⟨[],#[],0,_,fresh (Heap.get?_push_of_some _ hS),⟨.nil⟩⟩
        case go=>
          intro s' L es ep t hm hS' g' hkp
          obtain ⟨h',g2,d',tk',os'⟩:=s'
          obtain rfl:g2=s.gens:=hm.gens
          obtain rfl:d'=s.drawn:=hm.drawn
          obtain rfl:os'=s.os:=hm.os
          show wpAny _ _ _ _ _ _
          refine wpAny_pure ?_
          show wpAny _ _ (ret Value.none) _ _ _
          rw[isz] at g'
          exact wpAny_pure ⟨rfl,h',tk',L,es,ep,t,rfl,hS',g',hkp⟩
      · cases r₂ with
        | error e=>exact hr₂
        | ok fl₂=>
          cases fl₂ with
          | next=>exact hr₂.elim
          | brk=>exact hr₂.elim
          | cont=>exact hr₂.elim
          | ret r=>
            obtain ⟨rfl,h',tk,L,es,ep,t,rfl,hS',g',hk'⟩:=hr₂
            repeat (any_goals (first|assumption|wp_step))
            exact h _ _ _ _ _ _ hS' g' hk'
set_option maxRecDepth 100000 in
set_option maxHeartbeats 3200000 in
theorem set_tuple {l:Addr} {items:Array Value} (ks:List El) (D:List NestedKey) (hD:D.length≤305) (hkD:∀p∈ks,p.2∈D) {Q:Value→Shared→Prop} (hh:A.handled=none) (hl:s.heap.IsTuple l items) (hit:items.toList=ks.map fun p=>Value.ref p.1)
    (hk:∀p∈ks,IsN s.heap p.2 p.1) (hu:A.units+11<cLine) (h:∀(h':Heap) (tk:Nat) (L:List El) (es:Array (Int × Value)) (ep:Nat) (t:SetTable),SetN w h' s.heap.objs.size L es ep t→Hd ks ks.length L→(∀b o,s.heap.get? b=some o→h'.get? b=some o)→Q (.ref s.heap.objs.size) { s with heap:=h',toks:=tk }) :
    wpAny (model P w) A (call (.type "set") [.ref l]) Q E s:=by
  have isz:items.size=ks.length:=by
    have q:=congrArg List.length hit
    rw[List.length_map] at q
    exact q
  obtain ⟨c,tl,mro⟩:=F.called_set.mro
  have made:=F.called_set.made
  have sub:=F.called_set.sub
  refine wpAny_call (codeAny_of_tree ?_)
  show wpAny _ _ (callAny (.type "set") _) _ _ _
  refine wpAny_pure ⟨Code.quiet_builtin _ (by decide +kernel),codeAny_builtin F.entry_type_call ?_⟩
  rw[Around.under_plain (weight_type_call_type "set" [.ref l] []) rfl]
  have a1:=F.called_set.notType
  have a2:=F.called_set.canCreate
  have a3:=F.typeCall_set_1 (.ref l)
  repeat (any_goals (first|assumption|wp_step))
  refine codeAny_mono (code_set_led1 (.ref l) (E:=E) (Q₁:=fun b s₁=>b=.ref s.heap.objs.size∧s₁={ s with heap:=s.heap.push { cls:=.type "set",dict:=none,data:=.set #[] 0 (.fresh 0 0 (!w.params.followText "set-order")) } }) ⟨rfl,rfl⟩) fun r s₁ hr=>?_
  cases r with
  | error e=>exact hr
  | ok fl=>
    cases fl with
    | next=>exact hr.elim
    | brk=>exact hr.elim
    | cont=>exact hr.elim
    | ret b=>
      obtain ⟨rfl,rfl⟩:=hr
      obtain ⟨h1,eh1⟩:∃h1,h1=s.heap.push { cls:=.type "set",dict:=none,data:=.set #[] 0 (.fresh 0 0 (!w.params.followText "set-order")) }:=⟨_,rfl⟩
      rw[←eh1]
      have z1:h1.objs.size=s.heap.objs.size+1:=by rw[eh1]; exact Heap.size_push ..
      have hS:h1.get? s.heap.objs.size=some { cls:=.type "set",dict:=none,data:=.set #[] 0 (.fresh 0 0 (!w.params.followText "set-order")) }:=by rw[eh1]; exact Heap.get?_push_size _ rfl
      have k1:∀b o,s.heap.get? b=some o→h1.get? b=some o:=fun b o e=>by rw[eh1]; exact Heap.get?_push_of_some _ e
      have hT:Shared.TypeIs { s with heap:=h1 } (.ref s.heap.objs.size) "set":=⟨_,hS,rfl⟩
      have a4:=F.called_set.init.lookup
      have a5:=F.called_set.init.bind (.ref s.heap.objs.size)
      repeat (any_goals (first|assumption|wp_step))
      refine codeAny_mono (codeAny_call_builtin (R:=wants (fun r s₂=>r=.none∧∃h' tk L es ep t,s₂={ s with heap:=h',toks:=tk }∧SetN w h' s.heap.objs.size L es ep t∧Hd ks ks.length L∧(∀b o,s.heap.get? b=some o→h'.get? b=some o)) E) F.called_set.init.plain F.entry_set_init (check_set_init_1 hT ?_)) fun r₂ s₂ hr₂=>?_
      · obtain ⟨ol,hol,hcl,nl,hdl⟩:=hl
        obtain ⟨ocls,odict,odata,oslots⟩:=ol
        simp only at hcl hdl
        subst hcl
        subst hdl
        have hol1:=k1 _ _ hol
        have b1:=F.sub_tuple_set
        have b2:=F.sub_tuple_frozenset
        have b3:(Value.type "tuple" == Value.type "dict")=false:=by decide
        have hl1:h1.IsTuple l items:=⟨_,hol1,rfl,nl,rfl⟩
        unfold Builtin.«set.__init__» noKeywords Builtin.Frozenset.updateFrom
        generalize hPI:pyIter=PI
        wp_walk
        subst hPI
        refine wpAny_pyIter_tuple hl1 ?_
        refine wpAny_bind (wpAny_runValue ?_)
        have lS:l<s.heap.objs.size:=Heap.lt_size hol
        have h3:A.in1.in1.in1.handled=none:=by simp[hh]
        have nI:l≠h1.objs.size:=by rw[z1]; exact Nat.ne_of_lt (Nat.lt_succ_of_lt lS)
        have nf:s.heap.objs.size∉[h1.objs.size,l]:=by
          rw[z1]
          intro z
          rcases List.mem_cons.mp z with z|z
          · exact absurd z (Nat.ne_of_lt (Nat.lt_succ_self _))
          · exact Nat.ne_of_gt lS (List.mem_singleton.mp z)
        have hval:∀(i:Nat) (v:Value),items[i]?=some v→∃p,ks[i]?=some p∧v=.ref p.1:=fun i v hv=>by
          rw[←Array.getElem?_toList,hit,List.getElem?_map] at hv
          obtain ⟨p,e1,e2⟩:=Option.map_eq_some_iff.mp hv
          exact ⟨p,e1,e2.symm⟩
        have none_of:∀b,s.heap.objs.size≤b→s.heap.get? b=none:=fun b hb=>by
          cases q:s.heap.get? b with
          | none=>rfl
          | some o=>exact absurd (Heap.lt_size q) (Nat.not_lt_of_le hb)
        refine sU ((Walks.tuple h3 _ l nI items).toS) s.heap.objs.size nf ks isz D hD hkD hval s.heap hk (none_of _ (Nat.le_refl _)) (fun b hb=>none_of b (by rw[List.mem_singleton.mp hb,z1]; exact Nat.le_succ _)) (by show A.units+1+1+1+8<cLine; omega) (items.size - 0) 0 _ (by omega) (Nat.zero_le _)
          ⟨⟨_,Heap.get?_push_size _ rfl,rfl,rfl⟩,(hl1.push _)⟩ (fun b o e=>Heap.get?_push_of_some _ (k1 b o e)) ?st ?go
        case st=>exact ⟨[],#[],0,_,fresh (Heap.get?_push_of_some _ hS),⟨.nil⟩⟩
        case go=>
          intro s' L es ep t hm hS' g' hkp
          obtain ⟨h',g2,d',tk',os'⟩:=s'
          obtain rfl:g2=s.gens:=hm.gens
          obtain rfl:d'=s.drawn:=hm.drawn
          obtain rfl:os'=s.os:=hm.os
          show wpAny _ _ _ _ _ _
          refine wpAny_pure ?_
          show wpAny _ _ (ret Value.none) _ _ _
          rw[isz] at g'
          exact wpAny_pure ⟨rfl,h',tk',L,es,ep,t,rfl,hS',g',hkp⟩
      · cases r₂ with
        | error e=>exact hr₂
        | ok fl₂=>
          cases fl₂ with
          | next=>exact hr₂.elim
          | brk=>exact hr₂.elim
          | cont=>exact hr₂.elim
          | ret r=>
            obtain ⟨rfl,h',tk,L,es,ep,t,rfl,hS',g',hk'⟩:=hr₂
            repeat (any_goals (first|assumption|wp_step))
            exact h _ _ _ _ _ _ hS' g' hk'
end
end SN
namespace DL
open PySem PySem.Spec PyProof.Rows L2 LamX SN
abbrev T3:=Int × Int × Int
/-- an end (e,(d,n)); a ride (d,n) -/
def tD:Bool→T3→D
  | true,t=>.tup [.int t.1,.tup [.int t.2.1,.int t.2.2]]
  | false,t=>.tup [.int t.2.1,.int t.2.2]
def tK:Bool→T3→NestedKey
  | true,t=>.tup [.num t.1,.tup [.num t.2.1,.num t.2.2]]
  | false,t=>.tup [.num t.2.1,.num t.2.2]
def unK:Bool→NestedKey→T3
  | true,.tup [.num e,.tup [.num d,.num n]]=>(e,d,n)
  | false,.tup [.num d,.num n]=>(0,d,n)
  | _,_=>(0,0,0)
def sV:Bool→D→Option T3
  | true,.tup [.int e,.tup [.int d,.int n]]=>some (e,d,n)
  | false,.tup [.int d,.int n]=>some (0,d,n)
  | _,_=>none
def iF (b:Bool):List D→Option (List T3)
  | []=>some []
  | d::ds=>match sV b d,iF b ds with
    | some t,some ts=>some (t::ts)
    | _,_=>none
theorem pQ {b:Bool} {d:D} {t:T3} (h:sV b d=some t):d=tD b t∧unK b (tK b t)=t:=by
  unfold sV at h
  split at h
  · cases h; exact ⟨rfl,rfl⟩
  · cases h; exact ⟨rfl,rfl⟩
  · cases h
theorem jY {b:Bool}:∀ {ds:List D} {ts:List T3},iF b ds=some ts→ds=ts.map (tD b)∧∀t∈ts,unK b (tK b t)=t
  | [],ts,h=>by cases h; exact ⟨rfl,nofun⟩
  | d::ds,ts,h=>by
    unfold iF at h
    split at h
    · rename_i t us h1 h2
      cases h
      obtain ⟨e1,e2⟩:=pQ h1
      obtain ⟨f1,f2⟩:=jY h2
      refine ⟨by rw[e1,f1]; rfl,fun u hu=>?_⟩
      rcases List.mem_cons.mp hu with rfl|hu
      · exact e2
      · exact f2 u hu
    · cases h
/-- strictly rising -/
def lt3 (a b:T3):Bool:=decide (a.1<b.1∨(a.1=b.1∧(a.2.1<b.2.1∨(a.2.1=b.2.1∧a.2.2<b.2.2))))
theorem qa {a b:T3} (h:le3 a b=true) (n:a≠b):lt3 a b=true:=by
  obtain ⟨a1,a2,a3⟩:=a
  obtain ⟨b1,b2,b3⟩:=b
  simp[le3,lt3] at *
  omega
theorem Aa (a b:T3):lt3 a b=true∨a=b∨lt3 b a=true:=by
  obtain ⟨a1,a2,a3⟩:=a
  obtain ⟨b1,b2,b3⟩:=b
  simp[lt3]
  omega
theorem iy (a:T3):lt3 a a=false:=by simp[lt3]
theorem lC {a b c:T3} (h:lt3 a b=true) (h2:lt3 b c=true):lt3 a c=true:=by
  simp[lt3] at *
  omega
def jZ (x:T3):List T3→List T3
  | []=>[x]
  | y::ys=>if lt3 x y=true then x::y::ys else if x=y then y::ys else y::jZ x ys
/-- sorted,each once -/
def bT (ts:List T3):List T3:=ts.foldr jZ []
def Inc (ts:List T3):Prop:=ts.Pairwise fun a b=>lt3 a b=true
theorem ng {x k:T3}:∀ys:List T3,k∈jZ x ys↔k=x∨k∈ys
  | []=>by simp[jZ]
  | y::ys=>by
    unfold jZ
    split
    · simp
    · split
      · rename_i h
        subst h
        simp
      · rw[List.mem_cons,ng ys,List.mem_cons]
        exact ⟨fun h=>h.elim (fun z=>.inr (.inl z)) fun z=>z.elim .inl fun z=>.inr (.inr z),fun h=>h.elim (fun z=>.inr (.inl z)) fun z=>z.elim .inl fun z=>.inr (.inr z)⟩
theorem sW {x:T3}:∀ys:List T3,Inc ys→Inc (jZ x ys)
  | [],_=>by simp[jZ,Inc]
  | y::ys,h=>by
    obtain ⟨h1,h2⟩:=List.pairwise_cons.mp h
    unfold jZ
    split
    · rename_i hx
      exact List.pairwise_cons.mpr ⟨fun z hz=>(List.mem_cons.mp hz).elim (fun e=>e▸hx) fun hz=>lC hx (h1 z hz),h⟩
    · rename_i hx
      split
      · exact h
      · rename_i hn
        refine List.pairwise_cons.mpr ⟨fun z hz=>((ng ys).mp hz).elim (fun e=>?_) (h1 z),sW ys h2⟩
        rcases Aa x y with q|q|q
        · exact absurd q hx
        · exact absurd q hn
        · rw[e]; exact q
theorem gf {k:T3}:∀ns:List T3,k∈bT ns↔k∈ns
  | []=>Iff.rfl
  | n::ns=>by
    show k∈jZ n (bT ns)↔_
    rw[ng,gf ns,List.mem_cons]
theorem gg:∀ns:List T3,Inc (bT ns)
  | []=>List.Pairwise.nil
  | n::ns=>sW _ (gg ns)
theorem yw {ts:List T3} (h:Inc ts):ts.Nodup:=h.imp fun {a b} h e=>by rw[e,iy] at h; cases h
theorem vA:∀ {a b:List T3},Inc a→Inc b→(∀k,k∈a↔k∈b)→a=b
  | [],[],_,_,_=>rfl
  | [],y::ys,_,_,h=>absurd ((h y).mpr List.mem_cons_self) List.not_mem_nil
  | x::xs,[],_,_,h=>absurd ((h x).mp List.mem_cons_self) List.not_mem_nil
  | x::xs,y::ys,ha,hb,h=>by
    obtain ⟨a1,a2⟩:=List.pairwise_cons.mp ha
    obtain ⟨b1,b2⟩:=List.pairwise_cons.mp hb
    have e:x=y:=by
      have p:=(h x).mp List.mem_cons_self
      have q:=(h y).mpr List.mem_cons_self
      rcases List.mem_cons.mp p with p|p
      · exact p
      · rcases List.mem_cons.mp q with q|q
        · exact q.symm
        · have:=lC (a1 _ q) (b1 _ p)
          rw[iy] at this
          cases this
    subst e
    have no:∀k l:List T3,k∈[l]→True:=fun _ _ _=>trivial
    congr 1
    refine vA a2 b2 fun k=>⟨fun hk=>?_,fun hk=>?_⟩
    · rcases List.mem_cons.mp ((h k).mp (List.mem_cons_of_mem _ hk)) with e|e
      · have:=a1 _ hk
        rw[e,iy] at this
        cases this
      · exact e
    · rcases List.mem_cons.mp ((h k).mpr (List.mem_cons_of_mem _ hk)) with e|e
      · have:=b1 _ hk
        rw[e,iy] at this
        cases this
      · exact e
theorem sX {ms ns:List T3} (h1:Inc ms) (h2:∀k,k∈ms↔k∈ns):bT ns=ms:=vA (gg ns) h1 fun k=>(gf ns).trans (h2 k).symm
theorem w9 {ns:List T3}:(bT ns).length≤ns.length∧((bT ns).length=ns.length↔ns.Nodup):=by
  have il:∀(x:T3) (ys:List T3),(jZ x ys).length≤ys.length+1∧(Inc ys→((jZ x ys).length=ys.length+1↔x∉ys)):=by
    intro x ys
    induction ys with
    | nil=>simp[jZ]
    | cons y ys ih=>
      unfold jZ
      split
      · rename_i hx
        refine ⟨by simp,fun hi=>⟨fun _ hm=>?_,fun _=>by simp⟩⟩
        have:=(List.pairwise_cons.mp hi).1
        rcases List.mem_cons.mp hm with e|hm
        · rw[e,iy] at hx; cases hx
        · have:=lC hx (this x hm)
          rw[iy] at this
          cases this
      · split
        · rename_i he
          subst he
          refine ⟨by simp,fun _=>⟨fun h=>by simp at h,fun h=>absurd List.mem_cons_self h⟩⟩
        · rename_i hn
          refine ⟨by simp only[List.length_cons]; omega,fun hi=>?_⟩
          have:=ih.2 (List.pairwise_cons.mp hi).2
          simp only[List.length_cons,List.mem_cons,not_or]
          constructor
          · intro h
            exact ⟨hn,this.mp (by omega)⟩
          · intro h
            have:=this.mpr h.2
            omega
  induction ns with
  | nil=>exact ⟨Nat.le_refl _,by simp[bT]⟩
  | cons n ns ih=>
    show (jZ n (bT ns)).length≤_∧((jZ n (bT ns)).length=_↔_)
    have h:=il n (bT ns)
    have h2:=h.2 (gg ns)
    rw[gf] at h2
    rw[List.length_cons,List.nodup_cons]
    refine ⟨by omega,fun e=>?_,fun e=>?_⟩
    · have:(bT ns).length=ns.length:=by omega
      exact ⟨h2.mp (by omega),ih.2.mp this⟩
    · have:=ih.2.mpr e.2
      have:=h2.mpr e.1
      omega
/-- their order as data -/
theorem pR (b:Bool) (t u:T3):dle (tD b t) (tD b u)=if b=true then le3 t u else le3 (0,t.2.1,t.2.2) (0,u.2.1,u.2.2):=by
  obtain ⟨t1,t2,t3⟩:=t
  obtain ⟨u1,u2,u3⟩:=u
  cases b with
  | false=>
    have h:=ye (0,t2,t3) (0,u2,u3)
    rw[if_neg (by decide),←h,jx,jx]
    unfold trD tD
    rw[iw,iw,bV,bV,bV,bV,bV,fu]
    simp
  | true=>
    have ha:alk (.tup [.int u2,.int u3]) (.tup [.int t2,.int t3])=true:=by simp
    rw[if_pos rfl,jx]
    unfold tD
    rw[iw,bV,iX ha,fu,yc,iw,bV,bV,fu]
    rw[Bool.eq_iff_iff]
    unfold le3
    by_cases h1:u1=t1
    · by_cases h2:u2=t2
      · by_cases h3:u3=t3
        · simp[h1,h2,h3]
        · simp[h1,h2,h3]
      · simp[h1,h2]
        omega
    · simp[h1]
      omega
end DL
namespace DL
open PySem PySem.Spec PyProof.Rows L2 LamX SN
theorem se {α:Type} (f:α→NestedKey):∀(xs acc:List α),∀k∈acc.map f,k∈(fQ f acc xs).map f
  | [],acc,k,h=>h
  | x::xs,acc,k,h=>se f xs _ k (by
    split
    · exact h
    · rw[List.map_append]; exact List.mem_append_left _ h)
theorem jy {α:Type} (f:α→NestedKey):∀(xs acc:List α),∀x∈xs,f x∈(fQ f acc xs).map f
  | [],acc,x,h=>by cases h
  | y::xs,acc,x,h=>by
    rcases List.mem_cons.mp h with rfl|h
    · refine se f xs _ _ ?_
      split
      · assumption
      · simp
    · exact jy f xs _ x h
/-- its own kind tells a triple -/
abbrev OwnK (b:Bool) (t:T3):Prop:=unK b (tK b t)=t
abbrev sf (b:Bool) (zs:List (Addr × T3)):List (Addr × T3):=fQ (fun p=>tK b p.2) [] zs
theorem ni {b:Bool} {zs:List (Addr × T3)}:∀p∈sf b zs,p∈zs:=fun p hp=>by
  rcases qZ _ _ _ p hp with h|h
  · cases h
  · exact h
theorem wL {b:Bool} {zs:List (Addr × T3)}:((sf b zs).map (·.2)).Nodup:=by
  have h:=u9 (fun p:Addr × T3=>tK b p.2) zs [] (by simp)
  have e:(sf b zs).map (fun p:Addr × T3=>tK b p.2)=((sf b zs).map (·.2)).map (tK b):=by rw[List.map_map]; rfl
  rw[e] at h
  exact (List.pairwise_map.mp h).imp fun h e=>h (by rw[e])
theorem si {b:Bool} {zs:List (Addr × T3)} (ok:∀p∈zs,OwnK b p.2) (t:T3):t∈(sf b zs).map (·.2)↔t∈zs.map (·.2):=by
  constructor
  · intro h
    obtain ⟨p,hp,rfl⟩:=List.mem_map.mp h
    exact List.mem_map.mpr ⟨p,ni p hp,rfl⟩
  · intro h
    obtain ⟨p,hp,rfl⟩:=List.mem_map.mp h
    obtain ⟨q,hq,e⟩:=List.mem_map.mp (jy (fun p:Addr × T3=>tK b p.2) zs [] p hp)
    refine List.mem_map.mpr ⟨q,hq,?_⟩
    have e:tK b q.2=tK b p.2:=e
    have:=congrArg (unK b) e
    rw[ok q (ni q hq),ok p hp] at this
    exact this
theorem yx {b:Bool} {zs:List (Addr × T3)} (ok:∀p∈zs,OwnK b p.2):(sf b zs).length=(bT (zs.map (·.2))).length:=by
  have:=((List.perm_ext_iff_of_nodup wL (yw (gg (zs.map (·.2))))).mpr fun t=>(si ok t).trans (gf _).symm).length_eq
  rw[List.length_map] at this
  exact this
theorem sj {α β:Type} (f:α→β):∀ {m:List β} {n:List β},m.Perm n→∀l:List α,n=l.map f→∃l1:List α,l1.Perm l∧m=l1.map f:=by
  intro m n h
  induction h with
  | nil=>intro l e; cases l with
    | nil=>exact ⟨[],.nil,rfl⟩
    | cons _ _=>cases e
  | cons x p ih=>intro l e; cases l with
    | nil=>cases e
    | cons y l=>
      rw[List.map_cons] at e
      injection e with e1 e2
      obtain ⟨l1,h1,h2⟩:=ih l e2
      exact ⟨y::l1,h1.cons y,by rw[List.map_cons,←h2,e1]⟩
  | swap x y l0=>intro l e; match l,e with
    | a::c::l,e=>
      rw[List.map_cons,List.map_cons] at e
      injection e with e1 e2
      injection e2 with e2 e3
      exact ⟨c::a::l,.swap a c l,by rw[List.map_cons,List.map_cons,←e1,←e2,e3]⟩
  | trans p q ih1 ih2=>
    intro l e
    obtain ⟨l1,h1,h2⟩:=ih2 l e
    obtain ⟨l2,h3,h4⟩:=ih1 l1 h2
    exact ⟨l2,h3.trans h1,h4⟩
theorem lD {α β:Type} {R:β→α→Prop} (f:α→β):∀l:List α,(∀p∈l,R (f p) p)→PySem.W.EachIs R (l.map f) l
  | [],_=>.nil
  | p::l,h=>.cons (h p List.mem_cons_self) (lD f l fun q hq=>h q (List.mem_cons_of_mem _ hq))
theorem jC {α β:Type} (f:α→β):∀ {us:List β} {l:List α},PySem.W.EachIs (fun u p=>u=f p) us l→us=l.map f
  | _,_,.nil=>rfl
  | _,_,.cons h t=>by rw[List.map_cons,←jC f t,h]
theorem wM (b:Bool) (t:T3):dok 60 (tD b t)=true:=by
  cases b<;>simp[tD,dok]
theorem noL_t (b:Bool) (t:T3):noL (pdF (tD b t))=true:=by
  cases b<;>simp[tD,pdF,pdFs,noL,noLs]
theorem dep_t (b:Bool) (t:T3):(pdF (tD b t)).depth≤60:=(eR 60 _ (wM b t)).2
theorem yy (b:Bool) (ts:List T3):fJ (ts.map (tD b))=true:=by
  unfold fJ
  simp only[Bool.and_eq_true,List.all_eq_true,List.mem_map,forall_exists_index,and_imp,forall_apply_eq_imp_iff₂,Bool.or_eq_true]
  refine ⟨⟨fun t _=>wM b t,fun t _ u _=>?_⟩,.inl fun t _=>?_⟩
  · show alk (tD b t) (tD b u)=true
    cases b<;>simp[tD]
  · cases b<;>simp[tD]
section
variable {P:Program} {w:World} {A:Around} {E:Value→Shared→Prop} {s:Shared}
theorem sk {a:Addr} {L:List El} {es:Array (Int × Value)} {ep:Nat} {t:SetTable} {b:Bool} {N:List (Addr × T3)} {Q:Value→Shared→Prop} (R:SetN w s.heap a L es ep t) (hh:A.handled=none) (hu:A.units+65<cLine)
    (pmN:L.Perm (N.map fun p=>(p.1,tK b p.2))) (rd:∀p∈N,∃as,Reads s.heap (.ref p.1) (pdF (tD b p.2)) as)
    (hQ:∀s' p (out:Array Value) (c:Nat) (M:List (Addr × T3)),(∀b o,s.heap.get? b=some o→s'.heap.get? b=some o)→s'.gens=s.gens→s'.os=s.os→s.heap.objs.size≤p→
      s'.heap.get? p=some (seqObj "list" out c)→out.toList=M.map (fun q=>Value.ref q.1)→M.Perm N→M.Pairwise (fun q r=>dle (tD b q.2) (tD b r.2)=true)→Q (.ref p) s') :
    wpAny (model P w) A (call (.builtin "sorted") [.ref a]) Q E s:=by
  obtain ⟨o,ho,hex,hd⟩:=R.ob
  have hsz:=c6 R.rows
  have hfew:=R.few
  refine Calls.call_function_entry kind_sorted plain_sorted entry_sorted (args_sorted1 _) ?_
  unfold Builtin.«sorted»
  refine wpAny_bind (m:=checkCount "sorted" 1 1 _) (wpAny_pure ?_)
  refine wpAny_bind (collect_set (A:=A.in1) hh ⟨o,ho,hex.1,hd⟩ R.fits (by unfold scanBound; omega) R.tab.ris R.led fun s1 vs k1 hz g1 o1 pm=>?_)
  have hes:es.toList.map (·.2)=L.map fun q=>Value.ref q.1:=by
    rw[R.rows]
    unfold rwN
    rw[List.map_map]; rfl
  rw[hes] at pm
  have pm2:vs.Perm (N.map fun p=>Value.ref p.1):=by
    have h:=pm.trans (pmN.map fun q:El=>Value.ref q.1)
    rw[List.map_map] at h
    exact h
  obtain ⟨N1,pN,rfl⟩:=sj (fun p:Addr × T3=>Value.ref p.1) pm2 N rfl
  have hN1:N1.length≤306:=by rw[pN.length_eq]; have:=pmN.length_eq; rw[List.length_map] at this; omega
  refine wpAny_bind (wpAny_newList ?_ (by rw[List.length_map,sizeLine_eq]; omega))
  have hoL:(s1.heap.push (seqObj "list" (N1.map fun p=>Value.ref p.1).toArray 0)).get? s1.heap.objs.size=some (seqObj "list" (N1.map fun p=>Value.ref p.1).toArray 0):=Heap.get?_push_size _ rfl
  have er:PySem.W.EachIs (fun v (p:Addr × T3)=>∃as,Reads (s1.heap.push (seqObj "list" (N1.map fun p=>Value.ref p.1).toArray 0)) v (pdF (tD b p.2)) as∧s1.heap.objs.size∉as) (N1.map fun p=>Value.ref p.1) N1:=lD _ N1 fun p hp=>by
    obtain ⟨as,hr⟩:=rd p (pN.mem_iff.mp hp)
    have hr2:=PySem.W.reads_keeps (fun c u e=>Heap.get?_push_of_some _ (k1 c u e)) hr (h':=s1.heap.push (seqObj "list" (N1.map fun p=>Value.ref p.1).toArray 0))
    refine ⟨as,hr2,?_⟩
    rw[pG hr2 (noL_t b p.2)]
    exact List.not_mem_nil
  obtain ⟨q1,q2,q3⟩:=jT (yy b (N1.map (·.2)))
  have en:N1.map (fun p:Addr × T3=>pdF (tD b p.2))=((N1.map (·.2)).map (tD b)).map pdF:=by rw[List.map_map,List.map_map]; rfl
  have e0:PySem.W.EachIs (fun v (p:Addr × T3)=>v=Value.ref p.1) (N1.map fun p=>Value.ref p.1) N1:=lD _ N1 fun _ _=>rfl
  refine wpAny_bind (wpAny_holding (PySem.W.list_sort_data (s:={ s1 with heap:=s1.heap.push (seqObj "list" (N1.map fun p=>Value.ref p.1).toArray 0) }) (enc:=fun p:Addr × T3=>pdF (tD b p.2)) hoL e0 er (by rw[en]; exact q1) (by rw[en]; exact q2) (by rw[sizeLine_eq]; omega) (fun p _=>?_) fun out a1 a2=>?_))
  · have:=dep_t b p.2
    show A.units+1+1+_<_
    omega
  · have eo:=jC (fun p:Addr × T3=>Value.ref p.1) a2
    obtain ⟨c,hc⟩:=sortedHeap_at (vs:=N1.map fun p=>Value.ref p.1) (out:=List.toArray out) hoL
    have dl:∀q r:Addr × T3,PySem.W.dataLe false (fun p:Addr × T3=>pdF (tD b p.2)) q r=dle (tD b q.2) (tD b r.2):=fun _ _=>rfl
    have pw:(N1.mergeSort (PySem.W.dataLe false fun p:Addr × T3=>pdF (tD b p.2))).Pairwise fun q r=>PySem.W.dataLe false (fun p:Addr × T3=>pdF (tD b p.2)) q r=true:=by
      refine List.pairwise_mergeSort (fun x y z h1 h2=>?_) (fun x y=>?_) N1
      · rw[dl,pR] at *
        cases b
        · exact ge h1 h2
        · exact ge h1 h2
      · rw[dl,dl,pR,pR]
        cases b
        · exact gc _ _
        · exact gc _ _
    refine wpAny_pure ⟨_,rfl,hQ _ s1.heap.objs.size (List.toArray out) c (N1.mergeSort (PySem.W.dataLe false fun p:Addr × T3=>pdF (tD b p.2))) (fun b u e=>?_) g1 o1 hz hc (by simpa using eo) ((List.mergeSort_perm N1 _).trans pN) pw⟩
    have q:=k1 b u e
    have hlt:=Heap.lt_size q
    show (sortedHeap (s1.heap.push (seqObj "list" (N1.map fun p=>Value.ref p.1).toArray 0)) s1.heap.objs.size _ _).get? b=some u
    rw[sortedHeap_old (Nat.ne_of_lt hlt) (by rw[size_push']; exact Nat.lt_succ_of_lt hlt)]
    exact Heap.get?_push_of_some _ q
end
/-- what a sequence holds -/
def jD (S:Sto) (d:D):Option (List D):=match view S d with
  | .tup ds=>some ds
  | .lst ds=>some ds
  | .ro ds=>some ds
  | _=>none
theorem sr {K:PySem.W.Frag} {mg:Str→Option Value} {μ:Mu} {H:Hp} {S:Sto} (rs:RelS K mg μ H S) {d:D} {v:V} {xs:List D} (r:Rep K mg μ H d v) (e:jD S d=some xs) :
    ∃a vs,v=.ref a∧(SqT K H a vs∨SqL K H a vs)∧RepAll K mg μ H xs vs:=by
  unfold jD at e
  have rw0:=rs.view r
  split at e
  · rename_i ev
    cases e
    rw[ev] at rw0
    obtain ⟨b,vs,rfl,h1,h2,nb⟩:=rw0.tup
    exact ⟨b,vs,rfl,.inl (.inl h1),h2⟩
  · rename_i ev
    cases e
    rw[ev] at rw0
    obtain ⟨a,vs,rfl,h1,h2⟩:=rw0
    exact ⟨a,vs,rfl,.inr (.of h1),h2⟩
  · rename_i ev
    cases e
    rw[ev] at rw0
    have rw0:Rep K mg μ H (.ro xs) v:=rw0
    unfold Rep at rw0
    obtain ⟨a,vs,rfl,h1,h2⟩:=rw0
    exact ⟨a,vs,rfl,.inr h1.sq,h2⟩
  · cases e
section
variable {X:Cx} {W:WX} {a:Expr} {ta:TE} {m:ME} {p p2 q pos:Pos} {pins:List (Addr × Obj)} {s:Shared} {σ:L2.St} {H:Hp} {μ:Mu}
theorem iY {h:Heap} {i:Int} {v:V} {u:Value} (rd:Rep X.K X.mg μ H (.int i) v) (r:L2.RelV v u):NestedIs h (.num i) u:=by
  unfold Rep at rd
  subst rd
  obtain ⟨t,rfl⟩:=r
  exact .int i t
theorem yz (I:L2.Inv X pins σ H s) {ds:List D} {ks:List NestedKey} {v:V} {u:Value} (rd:Rep X.K X.mg μ H (.tup ds) v) (r:L2.RelV v u) (hall:∀vs us,RepAll X.K X.mg μ H ds vs→Vals vs us→NestedAll s.heap ks us):NestedIs s.heap (.tup ks) u:=by
  unfold Rep at rd
  obtain ⟨c,vs,rfl,ha,_,rv⟩:=rd
  cases r
  obtain ⟨its,rr,hT,_⟩:=I.tuple (.inl (.of ha))
  obtain ⟨o,ho,hc,n,hd⟩:=hT
  exact .tup ho hc hd (by simpa using hall _ _ rv rr)
theorem lE (I:L2.Inv X pins σ H s) {d e:D} {k l:NestedKey} {v:V} {u:Value} (rd:Rep X.K X.mg μ H (.tup [d,e]) v) (r:L2.RelV v u) (h1:∀v u,Rep X.K X.mg μ H d v→L2.RelV v u→NestedIs s.heap k u) (h2:∀v u,Rep X.K X.mg μ H e v→L2.RelV v u→NestedIs s.heap l u):NestedIs s.heap (.tup [k,l]) u:=
  yz I rd r fun vs us ra rv=>by
    unfold RepAll at ra
    obtain ⟨v1,r1,rfl,e1,e2⟩:=ra
    unfold RepAll at e2
    obtain ⟨v2,r2,rfl,e3,e4⟩:=e2
    unfold RepAll at e4
    subst e4
    cases rv with
    | cons a1 a2=>cases a2 with
      | cons a3 a4=>cases a4; exact .cons (h1 _ _ e1 a1) (.cons (h2 _ _ e3 a3) .nil)
theorem nest_t (I:L2.Inv X pins σ H s) (b:Bool) (t:T3) {v:V} {u:Value} (rd:Rep X.K X.mg μ H (tD b t) v) (r:L2.RelV v u):NestedIs s.heap (tK b t) u:=by
  cases b with
  | false=>exact lE I rd r (fun _ _=>iY) fun _ _=>iY
  | true=>exact lE I rd r (fun _ _=>iY) fun _ _ h r=>lE I h r (fun _ _=>iY) fun _ _=>iY
theorem dep_k (b:Bool) (t:T3):(tK b t).depth≤8:=by
  cases b<;>simp[tK,NestedKey.depth,NestedKey.depthAll]
theorem nums_k (b:Bool) (t:T3):u7 (tK b t):=by
  cases b with
  | false=>exact .tup fun k hk=>by simp at hk; rcases hk with rfl|rfl<;>exact .num _
  | true=>
    refine .tup fun k hk=>?_
    have hk:k∈[NestedKey.num t.1,NestedKey.tup [NestedKey.num t.2.1,NestedKey.num t.2.2]]:=hk
    rcases List.mem_cons.mp hk with rfl|hk
    · exact .num _
    · rcases List.mem_cons.mp hk with rfl|hk
      · exact .tup fun k hk=>by simp at hk; rcases hk with rfl|rfl<;>exact .num _
      · cases hk
theorem y0 {b:Bool} {t:T3} {v:V} (rd:Rep X.K X.mg μ H (tD b t) v):∃c,v=.ref c:=by
  cases b<;>(unfold tD Rep at rd; obtain ⟨c,vs,rfl,_⟩:=rd; exact ⟨c,rfl⟩)
theorem y8 (I:L2.Inv X pins σ H s) (b:Bool):∀(ts:List T3) {vs:List V} {us:List Value},RepAll X.K X.mg μ H (ts.map (tD b)) vs→Vals vs us→
    ∃zs:List (Addr × T3),ts=zs.map (·.2)∧vs=zs.map (fun p=>V.ref p.1)∧us=zs.map (fun p=>Value.ref p.1)∧∀p∈zs,Rep X.K X.mg μ H (tD b p.2) (.ref p.1)∧IsN s.heap (tK b p.2) p.1∧∃as,Reads s.heap (.ref p.1) (pdF (tD b p.2)) as
  | [],vs,us,ra,rv=>by
    unfold List.map RepAll at ra
    subst ra
    cases rv
    exact ⟨[],rfl,rfl,rfl,nofun⟩
  | t::ts,vs,us,ra,rv=>by
    rw[List.map_cons] at ra
    unfold RepAll at ra
    obtain ⟨v,q,rfl,r1,r2⟩:=ra
    cases rv with
    | cons a1 a2=>
      obtain ⟨zs,e1,e2,e3,h⟩:=y8 I b ts r2 a2
      obtain ⟨c,rfl⟩:=y0 r1
      have n:=nest_t I b t r1 a1
      have rr:=Dp.reads I _ _ _ (gJ 60 _ _ (wM b t) r1.w) a1
      cases a1
      exact ⟨(c,t)::zs,by rw[e1]; rfl,by rw[e2]; rfl,by rw[e3]; rfl,fun p hp=>by
        rcases List.mem_cons.mp hp with rfl|hp
        · exact ⟨r1,⟨n,dep_k b t,nums_k b t⟩,rr⟩
        · exact h p hp⟩
/-- what is asked of x ahead of set(x) -/
def vB (K:PySem.W.Frag) (mg:Str→Option Value) (b:Bool) (x:V) (H:Hp) (ts:List T3) (μ:Mu):Prop:=∃(l:Addr) (vs:List V),x=.ref l∧(SqT K H l vs∨SqL K H l vs)∧RepAll K mg μ H (ts.map (tD b)) vs∧(∀t∈ts,OwnK b t)∧(bT ts).length≤305
theorem pS {v:Value} {x:V} {b:Bool} {ts:List T3} {A:Around} {E:Value→Shared→Prop} {Q:Value→Shared→Prop} (I:L2.Inv X pins σ H s) (hh:A.handled=none) (hu:A.units+65<cLine) (k:vB X.K X.mg b x H ts μ) (r:L2.RelV x v)
    (h:∀(h':Heap) (tk:Nat) (L:List El) (es:Array (Int × Value)) (ep:Nat) (t:SetTable) (N:List (Addr × T3)),SetN X.w h' s.heap.objs.size L es ep t→L.Perm (N.map fun p=>(p.1,tK b p.2))→(∀p∈N,Rep X.K X.mg μ H (tD b p.2) (.ref p.1)∧∃as,Reads h' (.ref p.1) (pdF (tD b p.2)) as)→
      N.length=(bT ts).length→(N.map (·.2)).Nodup→(∀t,t∈N.map (·.2)↔t∈ts)→(∀b o,s.heap.get? b=some o→h'.get? b=some o)→Q (.ref s.heap.objs.size) { s with heap:=h',toks:=tk }) :
    wpAny (model X.prog X.w) A (call (.type "set") [v]) Q E s:=by
  obtain ⟨l,vs,rfl,hs,ra,ok,hn⟩:=k
  cases r
  have go:∀(its:List Value),Vals vs its→(∀(ks:List El) (D:List NestedKey),D.length≤305→(∀p∈ks,p.2∈D)→its=ks.map (fun p=>Value.ref p.1)→(∀p∈ks,IsN s.heap p.2 p.1)→
      (∀(h':Heap) (tk:Nat) (L:List El) (es:Array (Int × Value)) (ep:Nat) (t:SetTable),SetN X.w h' s.heap.objs.size L es ep t→Hd ks ks.length L→(∀b o,s.heap.get? b=some o→h'.get? b=some o)→Q (.ref s.heap.objs.size) { s with heap:=h',toks:=tk })→
      wpAny (model X.prog X.w) A (call (.type "set") [.ref l]) Q E s)→wpAny (model X.prog X.w) A (call (.type "set") [.ref l]) Q E s:=fun its rv w=>by
    obtain ⟨zs,e1,e2,e3,hz⟩:=y8 I b ts ra rv
    have ok':∀p∈zs,OwnK b p.2:=fun p hp=>ok _ (by rw[e1]; exact List.mem_map.mpr ⟨p,hp,rfl⟩)
    have ln:=yx ok'
    rw[←e1] at ln
    refine w (zs.map fun p=>(p.1,tK b p.2)) ((sf b zs).map fun p=>tK b p.2) (by rw[List.length_map,ln]; exact hn) (fun q hq=>?_) (by rw[e3,List.map_map]; rfl) (fun q hq=>?_) fun h' tk L es ep t R hd kp=>?_
    · obtain ⟨p,hp,rfl⟩:=List.mem_map.mp hq
      exact jy (fun p:Addr × T3=>tK b p.2) zs [] p hp
    · obtain ⟨p,hp,rfl⟩:=List.mem_map.mp hq
      exact (hz p hp).2.1
    · have pm:=hd.pm
      rw[List.take_length] at pm
      have e:=wK (fun q:El=>q.2) (fun p:Addr × T3=>((p.1,tK b p.2):El)) zs []
      rw[List.map_nil] at e
      rw[e] at pm
      exact h h' tk L es ep t (sf b zs) R pm (fun p hp=>by
        obtain ⟨g1,g2,as,g3⟩:=hz p (ni p hp)
        exact ⟨g1,as,PySem.W.reads_keeps kp g3⟩) ln wL (fun t=>by rw[si ok',←e1]) kp
  rcases hs with hs|hs
  · obtain ⟨its,rv,pl,hz⟩:=I.tuple hs
    exact go its rv fun ks D hD hk hit hN hQ=>SN.set_tuple ks D hD hk hh pl (by simpa using hit) hN (by omega) hQ
  · obtain ⟨its,rv,pl,hz⟩:=I.list hs
    exact go its rv fun ks D hD hk hit hN hQ=>SN.set_list ks D hD hk hh pl.isList (by simpa using hit) hN (by omega) hQ
def y9 (K:PySem.W.Frag) (mg:Str→Option Value) (b:Bool) (ta:TE):TE:=fun σ H Q=>ta σ H fun x H1=>∃ts μ,vB K mg b x H1 ts μ∧Q (.int ((bT ts).length:Nat)) H1
theorem vC {b:Bool} (hu:X.A.units+65<cLine) (hc:X.calm=true) (hg:Gl X "len") (hm:X.mg "len"=none) (hg2:Gl X "set") (hm2:X.mg "set"=none) (ha:PE X a ta) (na:starEach [a] X.env=(false,eval a X.env)::starEach [] X.env:=by rfl) :
    PE X (.Call (.Name "len" p) [.Call (.Name "set" p2) [a] [] q] [] pos) (y9 X.K X.mg b ta):=by
  refine ⟨fun pins s σ H Q I h=>?_⟩
  refine Call_ (ld_blt I hg hm PySem.boot_len ?_)
  refine PyProof.Rows.callWith_builtin1 (PyProof.Rows.args_cons ?_ rfl) rfl rfl
  refine Call_ (ld_blt I hg2 hm2 PyProof.Rows.boot_set ?_)
  refine PyProof.Rows.callWith_type1 (PyProof.Rows.args_cons (thn (ha.run pins s σ H _ I h) fun v s1 ⟨x,H1,I1,r1,q1⟩=>PyProof.Rows.args_nil ?_) na) na rfl
  obtain ⟨ts,μ,k,q1⟩:=q1
  refine pS I1 (I1.ok.hd hc) (by have:=hu; omega) k r1 fun h' tk L es ep t N R pm rd ln nd mem kp=>?_
  refine PyProof.Rows.args_nil ?_
  obtain ⟨o,ho,hex,hd⟩:=R.ob
  have I2:Inv X pins σ H1 { s1 with heap:=h',toks:=tk }:=I1.kept kp
  have hsz:es.size=(bT ts).length:=by rw[c6 R.rows,pm.length_eq,List.length_map,ln]
  have hfew:=R.few
  have:=c6 R.rows
  exact call_len_set ho hex hd (R.fits (s:={ s1 with heap:=h',toks:=tk })) (by omega) ⟨.int ((bT ts).length:Nat),H1,I2.tok _,⟨_,by rw[hsz]⟩,q1⟩
def xA (K:PySem.W.Frag) (mg:Str→Option Value) (b:Bool) (ta:TE):TE:=fun σ H Q=>ta σ H fun x H1=>∃ts μ,vB K mg b x H1 ts μ∧∀p vs,H1 p=none→RepAll K mg μ H1 ((bT ts).map (tD b)) vs→Q (.ref p) (upd H1 p (.lst vs))
theorem pT {b:Bool}:∀(M:List (Addr × T3)),(∀p∈M,Rep X.K X.mg μ H (tD b p.2) (.ref p.1))→RepAll X.K X.mg μ H ((M.map (·.2)).map (tD b)) (M.map fun p=>V.ref p.1)
  | [],_=>by unfold List.map List.map RepAll; rfl
  | p::M,h=>.cons (h p List.mem_cons_self) (pT M fun q hq=>h q (List.mem_cons_of_mem _ hq))
theorem wN:∀(M:List (Addr × T3)),Vals (M.map fun p=>V.ref p.1) (M.map fun p=>Value.ref p.1)
  | []=>.nil
  | p::M=>.cons rfl (wN M)
theorem sv {b:Bool} (hu:X.A.units+65<cLine) (hc:X.calm=true) (hg:Gl X "sorted") (hm:X.mg "sorted"=none) (hg2:Gl X "set") (hm2:X.mg "set"=none) (ha:PE X a ta) (na:starEach [a] X.env=(false,eval a X.env)::starEach [] X.env:=by rfl) :
    PE X (.Call (.Name "sorted" p) [.Call (.Name "set" p2) [a] [] q] [] pos) (xA X.K X.mg b ta):=by
  refine ⟨fun pins s σ H Q I h=>?_⟩
  refine Call_ (ld_blt I hg hm fV ?_)
  refine PyProof.Rows.callWith_builtin1 (PyProof.Rows.args_cons ?_ rfl) rfl rfl
  refine Call_ (ld_blt I hg2 hm2 PyProof.Rows.boot_set ?_)
  refine PyProof.Rows.callWith_type1 (PyProof.Rows.args_cons (thn (ha.run pins s σ H _ I h) fun v s1 ⟨x,H1,I1,r1,q1⟩=>PyProof.Rows.args_nil ?_) na) na rfl
  obtain ⟨ts,μ,k,q1⟩:=q1
  refine pS I1 (I1.ok.hd hc) (by have:=hu; omega) k r1 fun h' tk L es ep t N R pm rd ln nd mem kp=>?_
  refine PyProof.Rows.args_nil ?_
  have I2:Inv X pins σ H1 { s1 with heap:=h',toks:=tk }:=I1.kept kp
  have hfew:=R.few
  have hL:=pm.length_eq
  rw[List.length_map] at hL
  generalize hs2:({ s1 with heap:=h',toks:=tk }:Shared)=s2 at *
  have R:SetN X.w s2.heap s1.heap.objs.size L es ep t:=hs2▸R
  have rd:∀p∈N,Rep X.K X.mg μ H1 (tD b p.2) (.ref p.1)∧∃as,Reads s2.heap (.ref p.1) (pdF (tD b p.2)) as:=hs2▸rd
  refine sk R (I2.ok.hd hc) (by omega) pm (fun p hp=>(rd p hp).2) fun s' p out c M kp2 g o hp hgt hi pM pw=>?_
  have hn:H1 p=none:=I2.hok.fresh hp
  have e:bT ts=M.map (·.2):=by
    have ndM:(M.map (·.2)).Nodup:=(pM.map (·.2)).nodup_iff.mpr nd
    refine sX ?_ fun t=>((pM.map (·.2)).mem_iff).trans (mem t)
    have ok:=k.choose_spec.choose_spec.2.2.2.1
    unfold Inc
    refine List.pairwise_map.mpr (List.Pairwise.imp_of_mem (fun {q r} hq hr h=>?_) (pw.and (List.pairwise_map.mp ndM)))
    obtain ⟨h1,h2⟩:=h
    rw[pR] at h1
    cases b with
    | true=>exact qa h1 h2
    | false=>
      have z:∀q∈M,q.2.1=0:=fun q hq=>by
        have:=ok q.2 ((mem q.2).mp (List.mem_map.mpr ⟨q,pM.mem_iff.mp hq,rfl⟩))
        rw[←this]; rfl
      refine qa ?_ h2
      have hz1:=z q hq
      have hz2:=z r hr
      simp only[Bool.false_eq_true,if_false] at h1
      rw[←h1]
      obtain ⟨_,q1,q2,q3⟩:=q
      obtain ⟨_,r1,r2,r3⟩:=r
      simp at hz1 hz2
      subst hz1 hz2
      rfl
  have hlen:(M.map fun p=>V.ref p.1).length≤sizeLine:=by rw[List.length_map,pM.length_eq,sizeLine_eq]; omega
  have J:Inv X pins σ (upd H1 p (.lst (M.map fun p=>V.ref p.1))) { s2 with heap:=s'.heap,gens:=s'.gens,drawn:=s'.drawn,toks:=s'.toks }:=
    I2.call (ch:=[]) (Un.laid kp2 hp hn) (I2.hok.laid kp2 hp ⟨hlen,out.toList,c,by rw[hi]; exact wN M,hgt⟩) (by rw[g]; exact I2.bare) (fun _ z=>nomatch z)
  have e2:s'={ s2 with heap:=s'.heap,gens:=s'.gens,drawn:=s'.drawn,toks:=s'.toks }:=by
    cases s'
    cases s2
    cases o
    rfl
  rw[e2]
  exact ⟨.ref p,_,J,rfl,q1 p _ hn (by rw[e]; exact pT M fun q hq=>(rd q (pM.mem_iff.mp hq)).1)⟩
def jz (b:Bool) (m:ME):ME:=fun env S=>(m env S).bind fun d S=>match jD S d with
  | some ds=>match iF b ds with
    | some ts=>if (bT ts).length≤305 then .ok (.int ((bT ts).length:Nat)) S else .stuck
    | none=>.stuck
  | none=>.stuck
theorem vD (b:Bool) (hu:X.A.units+65<cLine) (hc:X.calm=true) (hg:Gl X "len") (hm:X.mg "len"=none) (hg2:Gl X "set") (hm2:X.mg "set"=none) (ha:PE X a (tE X W m)) (na:starEach [a] X.env=(false,eval a X.env)::starEach [] X.env:=by rfl) :
    PE X (.Call (.Name "len" p) [.Call (.Name "set" p2) [a] [] q] [] pos) (tE X W (jz b m)):=
  cA (vC (b:=b) hu hc hg hm hg2 hm2 ha na) fun σ H Q ⟨env,S,μ,rl,o⟩=>⟨env,S,μ,rl,(Out.bind o).mono fun x H1 ⟨μ1,S1,d,st,rs,rd,o1⟩=>by
    split at o1
    · rename_i ds ev
      obtain ⟨c,vs,rfl,h1,h2⟩:=sr rs rd ev
      split at o1
      · rename_i ts ex
        split at o1
        · rename_i hn
          obtain ⟨e1,e2⟩:=jY ex
          subst e1
          exact ⟨ts,μ1,⟨c,vs,rfl,h1,h2,e2,hn⟩,o1 μ1 H1 _ .refl rs (az _)⟩
        · exact o1.elim
      · exact o1.elim
    · exact o1.elim⟩
def iz (b:Bool) (m:ME):ME:=fun env S=>(m env S).bind fun d S=>match jD S d with
  | some ds=>match iF b ds with
    | some ts=>if (bT ts).length≤305 then .ok (.lst ((bT ts).map (tD b))) S else .stuck
    | none=>.stuck
  | none=>.stuck
theorem sy (b:Bool) (hu:X.A.units+65<cLine) (hc:X.calm=true) (hg:Gl X "sorted") (hm:X.mg "sorted"=none) (hg2:Gl X "set") (hm2:X.mg "set"=none) (ha:PE X a (tE X W m)) (na:starEach [a] X.env=(false,eval a X.env)::starEach [] X.env:=by rfl) :
    PE X (.Call (.Name "sorted" p) [.Call (.Name "set" p2) [a] [] q] [] pos) (tE X W (iz b m)):=
  cA (sv (b:=b) hu hc hg hm hg2 hm2 ha na) fun σ H Q ⟨env,S,μ,rl,o⟩=>⟨env,S,μ,rl,(Out.bind o).mono fun x H1 ⟨μ1,S1,d,st,rs,rd,o1⟩=>by
    split at o1
    · rename_i ds ev
      obtain ⟨c,vs,rfl,h1,h2⟩:=sr rs rd ev
      split at o1
      · rename_i ts ex
        split at o1
        · rename_i hn
          obtain ⟨e1,e2⟩:=jY ex
          subst e1
          exact ⟨ts,μ1,⟨c,vs,rfl,h1,h2,e2,hn⟩,fun p us hp ra=>o1 μ1 _ _ (.of_sm (.upd hp)) (rs.sm (.upd hp)) (bt rs hp ra)⟩
        · exact o1.elim
      · exact o1.elim
    · exact o1.elim⟩
end
@[simp] theorem BG (b:Bool) (m:ME) (env:En) (S:Sto):jz b m env S=(m env S).bind fun d S=>match jD S d with
  | some ds=>match iF b ds with
    | some ts=>if (bT ts).length≤305 then .ok (.int ((bT ts).length:Nat)) S else .stuck
    | none=>.stuck
  | none=>.stuck:=rfl
@[simp] theorem Ab (b:Bool) (m:ME) (env:En) (S:Sto):iz b m env S=(m env S).bind fun d S=>match jD S d with
  | some ds=>match iF b ds with
    | some ts=>if (bT ts).length≤305 then .ok (.lst ((bT ts).map (tD b))) S else .stuck
    | none=>.stuck
  | none=>.stuck:=rfl
section
variable {E:XV→Sto→Prop}
@[simp ↓] theorem BH (b:Bool) (m:ME) (env:En) (S:Sto) {Q:D→Sto→Prop}:Res.wp (jz b m env S) Q E=Res.wp ((m env S).bind fun d S=>match jD S d with
  | some ds=>match iF b ds with
    | some ts=>if (bT ts).length≤305 then .ok (.int ((bT ts).length:Nat)) S else .stuck
    | none=>.stuck
  | none=>.stuck) Q E:=rfl
@[simp ↓] theorem Ac (b:Bool) (m:ME) (env:En) (S:Sto) {Q:D→Sto→Prop}:Res.wp (iz b m env S) Q E=Res.wp ((m env S).bind fun d S=>match jD S d with
  | some ds=>match iF b ds with
    | some ts=>if (bT ts).length≤305 then .ok (.lst ((bT ts).map (tD b))) S else .stuck
    | none=>.stuck
  | none=>.stuck) Q E:=rfl
end
end DL
namespace DL
open PySem PySem.Spec PyProof.Rows L2
section
variable {X:Cx} {W:WX} {e tg iter elt kx vx:Expr} {pos:Pos} {g:MG} {m mk mv:ME} {mi:MI} {tc:MT} {vs:List Nat}
theorem xB {own:List (Str × Nat)} {σ:L2.St} {H:Hp} {Q:VK} (h:tE X W (mn mi g tc m (own.map (·.2))) σ H Q):tLc (tI X W mi) (tGc X (own.map (·.2)) g) (tT X W0 tc) (tE X W0 m) (own.map (·.2)) σ H Q:=by
  obtain ⟨env,S,μ,rl,o⟩:=h
  exact AW (F:=fun ds S=>.ok (.loc S.length) (S++[O.lst ds])) rl (show Out _ _ _ _ _ _ _ _ ((gN mi g tc m (own.map (·.2)) env S).bind _) from o) fun μ1 H1 S1 p μ2 H2 S2 acc us rs hp sp rs2 hp2 ra o=>by
      have sh:Stp μ1 H1 (μ1.hide p) (upd H1 p (.lst [])):=.new_hid hp
      have hid2:μ2.h=p::μ1.h:=sp.hid
      have np:p∉μ2.l:=fun z=>rs2.dis p z (by rw[hid2]; exact List.mem_cons_self)
      have mem:∀a,a∈(⟨μ2.l++[p],μ1.h⟩:Mu)↔a∈μ2:=fun a=>by
        show (a∈μ2.l++[p]∨a∈μ1.h)↔(a∈μ2.l∨a∈μ2.h)
        rw[hid2,List.mem_append,List.mem_singleton,List.mem_cons]
        exact ⟨fun h=>h.elim (fun h=>h.elim .inl fun h=>.inr (.inl h)) fun h=>.inr (.inr h),fun h=>h.elim (fun h=>.inl (.inl h)) fun h=>h.elim (fun h=>.inl (.inr h)) .inr⟩
      have s2:Stp μ2 H2 ⟨μ2.l++[p],μ1.h⟩ H2:=⟨⟨⟨[p],rfl⟩,fun a ha=>.inl ((mem a).mp ha),fun _ _ h _ _=>h⟩,fun _ _ _ h=>h⟩
      have st:Step μ1 H1 ⟨μ2.l++[p],μ1.h⟩ H2:=⟨(sh.trans sp.toStp).trans s2,rfl,fun a u ha e nt=>sp.hk a u (ne_of_none e hp) (List.mem_cons_of_mem _ ha) (by rw[upd_ne (ne_of_none e hp)]; exact e) nt⟩
      refine o ⟨μ2.l++[p],μ1.h⟩ H2 (.ref p) st ⟨by simp[rs2.len],List.nodup_append.mpr ⟨rs2.nd,by simp,fun a ha b hb=>?_⟩,fun a ha=>?_,fun a ha=>rs2.hid a (by rw[hid2]; exact List.mem_cons_of_mem _ ha),fun l u e=>?_,rs2.tab⟩ ?_
      · have:b=p:=by simpa using hb
        subst this
        exact fun z=>np (z▸ha)
      · rcases List.mem_append.mp ha with h|h
        · exact fun z=>rs2.dis a h (by rw[hid2]; exact List.mem_cons_of_mem _ z)
        · have:a=p:=by simpa using h
          subst this
          exact rs.notinH hp
      · by_cases hl:l<S2.length
        · rw[List.getElem?_append_left hl] at e
          obtain ⟨a,h1,h2⟩:=rs2.at_ l u e
          exact ⟨a,s2.get h1,h2.step s2 fun w q=>q⟩
        · rw[List.getElem?_append_right (by omega)] at e
          have hl2:l - S2.length=0:=by
            have:=(List.getElem?_eq_some_iff.mp e).1
            simp at this; omega
          rw[hl2] at e
          simp at e
          subst e
          have:l=S2.length:=by omega
          subst this
          exact ⟨p,by rw[rs2.len]; simp,us,hp2,RepAll.stp s2 _ _ ra⟩
      · unfold Rep
        exact ⟨p,rfl,by rw[rs2.len]; simp⟩
theorem tA {i:Nat} {y:Str} {py spos:Pos} {scope:Scope} {own:List (Str × Nat)} {ifs:List Expr} (hc:X.calm=true) (hN:X.N.Nodup) (hy:X.N[i]?=some y) (hyl:X.env.scope.names.lookup y=some .local)
    (hsw:swapsWith (.ListComp elt [⟨tg,iter,ifs,0⟩] scope pos) (some (.Name y py)) spos.line X.env=pure true) (hi:PI X tg iter (tI X W mi)) (ok:BlkOk X.N X.env.scope scope own)
    (hg:∀(s:Shared) (H:Hp) (C:Addr) (cl:List (Str × Addr)) (fp:List Addr),PG (X.blk s H scope (compEnvC scope cl C X.env) fp) tg (tGc (X.blk s H scope (compEnvC scope cl C X.env) fp) (own.map (·.2)) g))
    (ht:∀(s:Shared) (H:Hp) (C:Addr) (cl:List (Str × Addr)) (fp:List Addr),qK (X.blk s H scope (compEnvC scope cl C X.env) fp) ifs tc)
    (he:∀(s:Shared) (H:Hp) (C:Addr) (cl:List (Str × Addr)) (fp:List Addr),PE (X.blk s H scope (compEnvC scope cl C X.env) fp) elt (tE (X.blk s H scope (compEnvC scope cl C X.env) fp) W0 m)) (hs:∀x,foldedSetIterable iter X.env x=pure x:=by intro _; rfl) :
    PS X (.Assign [.Name y py] (.ListComp elt [⟨tg,iter,ifs,0⟩] scope pos) spos) (tS X W (bF i (mn mi g tc m (own.map (·.2))))):=
  fZ (ps_setLc (g:=tGc X (own.map Prod.snd) g) (tt:=tT X W0 tc) (te:=tE X W0 m) hc hN hy hyl hsw hi ok hg ht he hs) fun D σ H ⟨env,S,μ,rl,o⟩=>
    xB ⟨env,S,μ,rl,(OutS.rs rl.env o).mono fun x H1 ⟨μ1,S1,d,st,rs,r,o1⟩=>o1 μ1 H1 _ .refl ((rl.env.step st).set r) rs⟩
end
section
variable {prog:Program} {w:World} {A:Around} {E:Value→Shared→Prop} {s:Shared} {K:Type} [DecidableEq K] {knd:HeapKind prog w K}
theorem j0 {d a:Addr} {xs:List (K × Addr × Value)} {k:K} {v:Value} {Q:Unit→Shared→Prop} (hu:knd.room A) (hkey:knd.is s.heap k a) (hm:s.heap.DictOfH knd d xs)
    (hQ:∀h',h'.DictOfH knd d (storedH xs k a v)→Heap.SameBut d s.heap h'→Q () { s with heap:=h',toks:=s.toks+knd.draws k }) (hsz:xs.length≤sizeLine):wpAny (model prog w) A (dictSet d (.ref a) v) Q E s:=by
  unfold dictSet
  try with_reducible refine wpAny_holding ?_
  refine wpAny_bind (knd.pyHash hu hkey ?_)
  exact wpAny_dictSetHashed_heap (s:={ s with toks:=s.toks+knd.draws k }) hu hkey hm hQ hsz
end
theorem vE {X:Cx} {pins:List (Addr × Obj)} {σ:L2.St} {H:Hp} {s:Shared} {E:Value→Shared→Prop} {D b:Addr} {kvs:List (List L2.Key × V)} {k:List L2.Key} {v:V} {r:Value} {Q:Unit→Shared→Prop} (hu:X.A.units+65<cLine) (I:L2.Inv X pins σ H s) (hD:H D=some (.dT kvs)) (hz:kvs.length<sizeLine)
    (eb:H b=some (.tup (k.map kV))) (rv:L2.RelV v r) (h:∀s',L2.Inv X pins σ (upd H D (.dT (putK kvs k v))) s'→Q () s'):wpAny (model X.prog X.w) X.A (dictSet D (.ref b) r) Q E s:=by
  obtain ⟨z,hd,xs,rel,dd⟩:=dt_of I.hok hD
  have hz:xs.length≤sizeLine:=by rw[←Paired.length rel]; exact z
  have hl:(putK kvs k v).length≤sizeLine:=by have:=length_putK kvs k v; omega
  refine j0 (knd:=tupleKind (mixKind X.prog X.w)) (by show X.A.units<cLine; omega) (key_of I.hok eb) dd (fun h' dd' hs=>h _ ?_) hz
  obtain ⟨q,es,ep,hq,h2,h3,h4,_,h5⟩:=dd'
  refine d_write I (by rw[hD]; exact True.intro) hs ⟨q,hq⟩ ⟨hl,hd,_,(rel.put k eb rv).keeps fun c ys ec=>?_,q,es,ep,hq,h2,h3,h4,h5⟩
  rw[upd_ne (ne_of ec hD (fun z=>nomatch z))]
  exact ec
section
variable {X:Cx}
/-- {k: v for target in iter if ..},keys ints or texts: D the new dict -/
def tDcT (wi:TI) (g:TG) (tt:TT) (tk tv:TE) (vs:List Nat):TE:=fun σ H Q=>wi σ H fun J H1=>∀D,H1 D=none→∃W:Nat→Nat→Hp→Prop,(∃m,W 0 m (upd H1 D (.dT [])))∧∀i m H,W i m H→
  (J.stop i H∧Q (.ref D) H)∨(J.go i H∧∃Nx:Hp→Prop,(∀H',Nx H'→∃m',m'<m∧W (i+1) m' H')∧∀x H',J.yld i H x H'→g x (wipe σ vs) H' fun σ2 H2=>wipe σ2 vs=wipe σ vs∧tt σ2 H2 fun b H3=>
    if b=true then tk σ2 H3 fun y H4=>tv σ2 H4 fun z H5=>∃kvs k b,y=.ref b∧H5 b=some (.tup (k.map kV))∧H5 D=some (.dT kvs)∧kvs.length<sizeLine∧Nx (upd H5 D (.dT (putK kvs k z))) else Nx H3)
theorem zA {pins:List (Addr × Obj)} {s:Shared} {σ:L2.St} {H:Hp} {Q:VK} {kx vx tg iter:Expr} {ifs:List Expr} {scope:Scope} {own:List (Str × Nat)} {pos pos':Pos} {wi:TI} {g:TG} {tt:TT} {tk tv:TE} {use:Option (Value→Sem Unit)} {Qf:Value→Shared→Prop}
    (hu:X.A.units+65<cLine) (hc:X.calm=true) (hN:X.N.Nodup) (I:L2.Inv X pins σ H s) (hi:PI X tg iter wi) (ok:BlkOk X.N X.env.scope scope own)
    (hg:∀(s:Shared) (H:Hp) (C:Addr) (cl:List (Str × Addr)) (fp:List Addr),PG (X.blk s H scope (compEnvC scope cl C X.env) fp) tg g) (ht:∀(s:Shared) (H:Hp) (C:Addr) (cl:List (Str × Addr)) (fp:List Addr),PTs (X.blk s H scope (compEnvC scope cl C X.env) fp) ifs tt)
    (hk:∀(s:Shared) (H:Hp) (C:Addr) (cl:List (Str × Addr)) (fp:List Addr),PE (X.blk s H scope (compEnvC scope cl C X.env) fp) kx tk)
    (he:∀(s:Shared) (H:Hp) (C:Addr) (cl:List (Str × Addr)) (fp:List Addr),PE (X.blk s H scope (compEnvC scope cl C X.env) fp) vx tv) (hs:∀x,foldedSetIterable iter X.env x=pure x)
    (h:tDcT wi g tt tk tv (own.map (·.2)) σ H Q)
    (hRR:∀D C s' m H',Inv X pins σ H' s'→Q (.ref D) H'→s'.heap.Ns C m→FpOk X pins H' C→compPost (model X.prog X.w) X.A X.xe use Qf (.ref D) C (.ok .next) s') :
    wpAny (model X.prog X.w) X.A (comprehension (.DictComp kx vx [⟨tg,iter,ifs,0⟩] scope pos) scope X.env pos' newDict false (eval iter X.env) use) Qf X.xe s:=by
  have hfree:∀y∈scope.names,y.2=.free→∃c,X.env.cells.lookup y.1=some c:=fun y hy e=>by
    rcases ok.free y hy e with k|k
    · exact I.ok.has _ (.inl k)
    · exact I.ok.has _ (.inr k)
  refine wpAny_comprehension_free (use:=use) rfl hs (closure_ok hfree) ok.kind (fun y hy e=>by rw[ok.uniq y hy,e])
    (thn (hi.run pins s σ H _ I h) fun xv s1 hx=>thn hx fun itv s2 h2=>?_)
  obtain ⟨it,fp,tn,J,H2,e,I2,T,st2,f2,q⟩:=h2
  subst e
  refine wpAny_newObj_type (newEnv_comp ?_)
  generalize hD:s2.heap.objs.size=D
  have hDn:H2 D=none:=I2.hok.fresh (Nat.le_of_eq hD)
  obtain ⟨W,⟨m0,w0⟩,turn⟩:=q D hDn
  -- the new list
  generalize hs3:({ s2 with heap:=s2.heap.push { cls:=.type "dict",data:=.dict #[] } }:Shared)=s3
  have I3:Inv X pins σ (upd H2 D (.dT [])) s3:=by
    rw[←hs3]
    refine I2.laid (t':=s2.toks) (fun b o e=>Heap.get?_push_of_some _ e) (Nat.le_of_eq hD) ?_
    rw[←hD]
    exact dt_empty s2.heap I2.big
  have h3:s3.heap=s2.heap.push { cls:=.type "dict",data:=.dict #[] }:=by rw[←hs3]
  have sz:∀b∈fp,b<s2.heap.objs.size:=fun b hb=>by
    obtain ⟨o,e,_⟩:=T.obj _ _ st2 b hb
    exact Heap.lt_size e
  have f3:∀b∈fp,FpOk X pins (upd H2 D (.dT [])) b∧b<s3.heap.objs.size:=fun b hb=>by
    have hlt:=sz b hb
    refine ⟨⟨?_,(f2 b hb).2⟩,by rw[h3,Heap.size_push]; exact Nat.lt_succ_of_lt hlt⟩
    rw[upd_ne (by rw[←hD]; exact Nat.ne_of_lt hlt)]
    exact (f2 b hb).1
  have st3:tn 0 s3.heap:=T.keep _ _ _ st2 fun b _ o e=>by rw[h3]; exact Heap.get?_push_of_some _ e
  have I4:=block_start I3 ok hN f3
  have pg:=hg s3 (upd H2 D (.dT [])) s3.heap.objs.size (cellsFrom (s3.heap.objs.size+1) scope.names (cloFrom X.env.cells scope.names [])) fp
  have pt:=ht s3 (upd H2 D (.dT [])) s3.heap.objs.size (cellsFrom (s3.heap.objs.size+1) scope.names (cloFrom X.env.cells scope.names [])) fp
  have pk:=hk s3 (upd H2 D (.dT [])) s3.heap.objs.size (cellsFrom (s3.heap.objs.size+1) scope.names (cloFrom X.env.cells scope.names [])) fp
  have pe:=he s3 (upd H2 D (.dT [])) s3.heap.objs.size (cellsFrom (s3.heap.objs.size+1) scope.names (cloFrom X.env.cells scope.names [])) fp
  show codeAny _ _ (.compStart (.DictComp kx vx [⟨tg,iter,ifs,0⟩] scope pos) 0 (.ref it) (.ref D) (compEnvC scope (cellsFrom (s3.heap.objs.size+1) scope.names (cloFrom X.env.cells scope.names [])) s3.heap.objs.size X.env)) (compPost (model X.prog X.w) X.A X.xe use Qf (.ref D) s3.heap.objs.size) { s3 with heap:=pushCells (s3.heap.push { cls:=.type "dict",data:=.dict #[] }) scope.names }
  have nfp:∀b∈fp,(upd H2 D (.dT [])) b=none:=fun b hb=>(f3 b hb).1.1
  generalize hce:compEnvC scope (cellsFrom (s3.heap.objs.size+1) scope.names (cloFrom X.env.cells scope.names [])) s3.heap.objs.size X.env=ce at I4 pg pt pk pe ⊢
  have cL:ce.locals=s3.heap.objs.size:=by subst hce; rfl
  generalize hH3:upd H2 D (.dT [])=H3 at I3 I4 pg pt pk pe w0 nfp f3
  generalize hs4:({ s3 with heap:=pushCells (s3.heap.push { cls:=.type "dict",data:=.dict #[] }) scope.names }:Shared)=s4 at I4 ⊢
  have st4:tn 0 s4.heap:=T.keep _ _ _ st3 fun b _ o e=>by rw[←hs4]; exact pushCells_keeps _ _ _ _ (Heap.get?_push_of_some _ e)
  have stat:∀ {σ':L2.St} {H':Hp} {s':Shared},Inv (X.blk s3 H3 scope ce fp) [] σ' H' s'→(∀b∈fp,H' b=none)→∀b∈fp,FpOk (X.blk s3 H3 scope ce fp) [] H' b:=fun {σ' H' s'} I' hn b hb=>
    ⟨hn b hb,(I'.ok.exf b hb).1,I'.ok.exfs b hb,.inl hb,fun x c e=>(I'.ok.exf b hb).2 x c e,fun p hp=>absurd (show p∈([]:List (Addr × Obj))++[] from hp) (by simp)⟩
  have loop:codeAny (model X.prog X.w) X.A (.compLoop (.DictComp kx vx [⟨tg,iter,ifs,0⟩] scope pos) 0 (.ref it) (.ref D) ce) (compPost (model X.prog X.w) X.A X.xe use Qf (.ref D) s3.heap.objs.size) s4:=by
    refine compLoop_anyD (fun n s'=>∃i H',Inv (X.blk s3 H3 scope ce fp) [] (wipe σ (own.map (·.2))) H' s'∧tn i s'.heap∧(∀b∈fp,H' b=none)∧W i n H') ?_ m0 ⟨0,H3,I4,st4,nfp,w0⟩
    rintro n s5 ⟨i,H5,I5,st5,n5,w5⟩
    rcases turn i n H5 w5 with ⟨stop,qq⟩|⟨go,Nx,hNx,step⟩
    · have td:=T.done (X.blk s3 H3 scope ce fp) rfl rfl rfl hc i [] s5 _ H5 (fun _ _=>False) I5 (stat I5 n5) st5 stop
      refine thnF td fun r s6 ⟨hr,I6⟩=>?_
      subst hr
      -- back in the def's context
      have I7:Inv X pins σ H5 s6:=I3.call' (ch:=fp) I6.os I6.base I6.hok I6.bare fun b hb=>⟨(f3 b hb).1.2.2.2.1,(f3 b hb).1.2.1,(f3 b hb).1.2.2.2.2.1,(f3 b hb).1.2.2.2.2.2⟩
      have nC:H5 s3.heap.objs.size=none:=by
        have z:H5 ce.locals=none:=I6.free
        rw[cL] at z
        exact z
      obtain ⟨m,hn,_⟩:=I6.loc
      have hn:s6.heap.Ns ce.locals m:=hn
      rw[cL] at hn
      exact hRR D s3.heap.objs.size s6 m H5 I7 qq hn (I3.fpOk (Nat.le_refl _) nC)
    · have ti:=T.item (X.blk s3 H3 scope ce fp) rfl rfl rfl hc i [] s5 _ H5 (fun _ _=>False) I5 (stat I5 n5) st5 go
      refine thnF ti fun r s6 ⟨u,hr,h6⟩=>?_
      subst hr
      refine thnF h6 fun _ s7 ⟨x,H7,I7,r7,y7,st7,n7⟩=>?_
      have I7':=I7.pinned (stat I7 n7) (T.obj _ _ st7)
      refine thnF (pg.run _ s7 _ H7 x u _ I7' r7 (step x H7 y7)) fun _ s8 ⟨σ8,H8,I8,hw8,q8⟩=>?_
      refine thnF (pt.run _ s8 σ8 H8 _ I8 q8) fun b s9 ⟨H9,I9,q9⟩=>?_
      -- the turn's end
      have fin:∀ {s':Shared} {H':Hp},Inv (X.blk s3 H3 scope ce fp) ([]++pinsAt fp s7.heap) σ8 H' s'→Nx H'→∃m,m<n∧∃i H',Inv (X.blk s3 H3 scope ce fp) [] (wipe σ (own.map (·.2))) H' s'∧tn i s'.heap∧(∀b∈fp,H' b=none)∧W i m H':=fun {s' H'} I' nx=>by
        obtain ⟨m',hm,w'⟩:=hNx H' nx
        have pin':∀b∈fp,∀o,s7.heap.get? b=some o→s'.heap.get? b=some o∧H' b=none:=fun b hb o e=>
          let z:=I'.pin (b,o) (List.mem_append_right _ (List.mem_append_right _ (mem_pinsAt hb e)))
          ⟨z.1,z.2.1⟩
        have hl:(wipe σ (own.map (·.2))).length=σ8.length:=by rw[←hw8,wipe_length]
        refine ⟨m',hm,i+1,H',(I'.unpinned (pins:=[])).weak hl (fun j v e=>?_),T.keep _ _ _ st7 fun b hb o e=>(pin' b hb o e).1,fun b hb=>?_,w'⟩
        · rw[←hw8] at e
          exact (wipe_some e).1
        · obtain ⟨o,e,_⟩:=T.obj _ _ st7 b hb
          exact (pin' b hb o e).2
      cases b with
      | false=>
        simp only[Bool.false_eq_true,if_false] at q9 ⊢
        exact fin I9 q9
      | true=>
        simp only[if_true] at q9 ⊢
        refine thnF (pk.run _ s9 σ8 H9 _ I9 q9) fun z s10 ⟨yk,H10,I10,r10,q10⟩=>?_
        refine thnF (pe.run _ s10 σ8 H10 _ I10 q10) fun z2 s11 ⟨yv,H11,I11,r11,kvs,k,kb,ek,hb11,hD11,hz11,nx⟩=>?_
        subst ek
        cases (show z=Value.ref kb from r10)
        exact vE (X:=X.blk s3 H3 scope ce fp) hu I11 hD11 hz11 hb11 r11 fun s12 I12=>fin I12 nx
  exact codeAny_compStart_dict loop (T.self X.A 0 _ _ _ st4 loop)
/-- as a value -/
theorem pe_dcT {kx vx tg iter:Expr} {ifs:List Expr} {scope:Scope} {own:List (Str × Nat)} {pos:Pos} {wi:TI} {g:TG} {tt:TT} {tk tv:TE} (hu:X.A.units+65<cLine) (hc:X.calm=true) (hN:X.N.Nodup) (hi:PI X tg iter wi) (ok:BlkOk X.N X.env.scope scope own)
    (hg:∀(s:Shared) (H:Hp) (C:Addr) (cl:List (Str × Addr)) (fp:List Addr),PG (X.blk s H scope (compEnvC scope cl C X.env) fp) tg g) (ht:∀(s:Shared) (H:Hp) (C:Addr) (cl:List (Str × Addr)) (fp:List Addr),PTs (X.blk s H scope (compEnvC scope cl C X.env) fp) ifs tt)
    (hk:∀(s:Shared) (H:Hp) (C:Addr) (cl:List (Str × Addr)) (fp:List Addr),PE (X.blk s H scope (compEnvC scope cl C X.env) fp) kx tk)
    (he:∀(s:Shared) (H:Hp) (C:Addr) (cl:List (Str × Addr)) (fp:List Addr),PE (X.blk s H scope (compEnvC scope cl C X.env) fp) vx tv) (hs:∀x,foldedSetIterable iter X.env x=pure x:=by intro _; rfl) :
    PE X (.DictComp kx vx [⟨tg,iter,ifs,0⟩] scope pos) (tDcT wi g tt tk tv (own.map (·.2))):=by
  refine ⟨fun pins s σ H Q I h=>?_⟩
  rw[arm_eval_DictComp]
  refine zA hu hc hN I hi ok hg ht hk he hs h fun D C s' m H' I' q hn f=>⟨m,hn,fun h'' sb=>?_⟩
  obtain ⟨f0,f1,f2,f3,f4,f5⟩:=f
  exact ⟨.ref D,H',I'.turned (t':=s'.toks) (fun b o hb e=>(sb.2 b hb).trans e) f0 f1 f3 f4 f5,rfl,q⟩
end
section
variable {X:Cx} {W:WX} {e tg iter elt kx vx:Expr} {pos:Pos} {g:MG} {m mk mv:ME} {mi:MI} {tc:MT} {vs:List Nat}
def g8 (g:MG) (tc:MT) (mk mv:ME) (w:En) (d:D) (acc:List (D × D)) (S:Sto):Res (List (D × D)):=match g d w S with
  | none=>.stuck
  | some p=>(tc p.1 p.2).bindS fun c S2=>if c=true then (mk p.1 S2).bindS fun k S3=>(mv p.1 S3).bindS fun v S4=>if cg true k=true∧acc.length<1000000 then .ok (g5 true acc k v) S4 else .stuck else .ok acc S2
def gR (g:MG) (tc:MT) (mk mv:ME) (w:En):List D→List (D × D)→Sto→Res (List (D × D))
  | [],acc,S=>.ok acc S
  | d::ds,acc,S=>(g8 g tc mk mv w d acc S).bindS fun acc S=>gR g tc mk mv w ds acc S
def cz (g:MG) (tc:MT) (mk mv:ME) (w:En) (l:Nat):Nat→Nat→List (D × D)→Sto→Res (List (D × D))
  | 0,_,_,_=>.stuck
  | n+1,i,acc,S=>match S[l]? with
    | some (.lst xs)=>match xs[i]? with
      | none=>.ok acc S
      | some d=>(g8 g tc mk mv w d acc S).bindS fun acc S=>cz g tc mk mv w l n (i+1) acc S
    | _=>.stuck
/-- a dict laid -/
def kDT:List (D × D)→Sto→Res D:=fun kvs S=>.ok (.loc S.length) (S++[.dct true kvs])
def i3 (mi:MI) (g:MG) (tc:MT) (mk mv:ME) (vs:List Nat):ME:=fun env S=>(mi env S).bind fun it S=>match it with
  | .items ds=>(gR g tc mk mv (aU env vs) ds [] S).bind kDT
  | .live l=>(cz g tc mk mv (aU env vs) l (dB S l+1) 0 [] S).bind kDT
  | .liveE _=>.stuck
/-- a dict that is being made -/
def vF (K:PySem.W.Frag) (mg:Str→Option Value) (μ:Mu) (H:Hp) (p:Addr) (acc:List (D × D)):Prop:=∃(ks:List (List L2.Key)) (vs:List V),H p=some (.dT (ks.zip vs))∧acc.map (·.1)=ks.map gH∧RepAll K mg μ H (acc.map (·.2)) vs
theorem tB {W:WX} {vs:List Nat} {σ:L2.St} {w:En} {p:Addr} {Q:V→Hp→Prop} {μ1 μ2:Mu} {H1 H2:Hp} {S2:Sto} {d:D} {x:V} {acc:List (D × D)} {N:Hp→Prop} {f:List (D × D)→Sto→Res D}
    (re:RelE X.K X.mg μ2 H2 w (L2.wipe σ vs)) (rs:RelS X.K X.mg μ2 H2 S2) (hp:vF X.K X.mg μ2 H2 p acc) (np:p∈μ2.h) (rx:Rep X.K X.mg μ2 H2 d x)
    (o:Out X.K X.mg W σ μ1 H1 (fun μ H a b=>Rep X.K X.mg μ H a b) Q ((g8 g tc mk mv w d acc S2).bindS f))
    (hN:∀μ3 H3 S3 acc',StP p μ2 H2 μ3 H3→RelS X.K X.mg μ3 H3 S3→vF X.K X.mg μ3 H3 p acc'→Out X.K X.mg W σ μ1 H1 (fun μ H a b=>Rep X.K X.mg μ H a b) Q (f acc' S3)→N H3) :
    tGc X vs g x (L2.wipe σ vs) H2 fun σ2 H3=>L2.wipe σ2 vs=L2.wipe σ vs∧tT X W0 tc σ2 H3 fun b H4=>if b=true then tE X W0 mk σ2 H4 fun y H5=>tE X W0 mv σ2 H5 fun z H6=>∃kvs k b,y=.ref b∧H6 b=some (.tup (k.map kV))∧H6 p=some (.dT kvs)∧kvs.length<sizeLine∧N (upd H6 p (.dT (putK kvs k z))) else N H4:=by
  refine ⟨w,S2,μ2,d,⟨re,rs⟩,rx,?_⟩
  unfold g8 at o
  obtain ⟨ks,us,hp,hk,ra⟩:=hp
  cases hg:g d w S2 with
  | none=>simp only[hg,Res.bindS] at o; exact o.elim
  | some q=>
    obtain ⟨e,Se⟩:=q
    simp only[hg] at o
    intro μ3 H3 σ3 st3 re3 rs3 hw
    refine ⟨hw.trans (fU vs vs σ fun i hi=>hi),e,Se,μ3,⟨re3,rs3⟩,?_⟩
    have hp3:=st3.hk _ _ np hp
    have np3:p∈μ3.h:=by rw[st3.hid]; exact np
    have ra3:=RepAll.step st3 _ _ ra
    cases htc:tc e Se with
    | exc a b=>simp only[htc,Res.bindS] at o; exact o.elim
    | stuck=>simp only[htc,Res.bindS] at o; exact o.elim
    | ok c S4=>
      simp only[htc,Res.bindS] at o
      intro μ4 H4 b st4 rs4 hb
      subst hb
      have hp4:=st4.hk _ _ np3 hp3
      have np4:p∈μ4.h:=by rw[st4.hid]; exact np3
      have ra4:=RepAll.step st4 _ _ ra3
      cases b with
      | false=>
        simp only[Bool.false_eq_true,if_false] at o ⊢
        exact hN μ4 H4 S4 acc (.of (st3.trans st4)) rs4 ⟨ks,us,hp4,hk,ra4⟩ o
      | true=>
        simp only[if_true] at o ⊢
        refine ⟨e,S4,μ4,⟨re3.step st4,rs4⟩,?_⟩
        cases hm:mk e S4 with
        | exc a b=>simp only[hm,Res.bindS] at o; exact o.elim
        | stuck=>simp only[hm,Res.bindS] at o; exact o.elim
        | ok kd S5=>
          simp only[hm,Res.bindS] at o
          intro μ5 H5 y st5 rs5 ry
          have hp5:=st5.hk _ _ np4 hp4
          have np5:p∈μ5.h:=by rw[st5.hid]; exact np4
          have ra5:=RepAll.step st5 _ _ ra4
          refine ⟨e,S5,μ5,⟨(re3.step st4).step st5,rs5⟩,?_⟩
          cases hv:mv e S5 with
          | exc a b=>simp only[hv,Res.bindS] at o; exact o.elim
          | stuck=>simp only[hv,Res.bindS] at o; exact o.elim
          | ok v S6=>
            simp only[hv,Res.bindS] at o
            intro μ6 H6 z st6 rs6 rz
            have hp6:=st6.hk _ _ np5 hp5
            have np6:p∈μ6.h:=by rw[st6.hid]; exact np5
            have ra6:=RepAll.step st6 _ _ ra5
            by_cases hl:cg true kd=true∧acc.length<1000000
            · simp only[hl,and_self,if_true] at o
              obtain ⟨kk,rfl⟩:=vg hl.1
              obtain ⟨ks',vs',h1,h2,h3⟩:=jp vf kk rz hk ra6
              have sw:StP p μ6 H6 μ6 (upd H6 p (.dT (putK (ks.zip us) kk z))):=.write np6 (.of hp6)
              obtain ⟨kb,ey,hkb⟩:=jh (Rep.step st6 _ _ ry)
              refine ⟨_,kk,kb,ey,hkb,hp6,?_,?_⟩
              · rw[ir hk ra,sizeLine_eq]; omega
              · exact hN μ6 _ S6 _ ((StP.of (((st3.trans st4).trans st5).trans st6)).trans sw) (rs6.write_hid np6) ⟨ks',vs',by rw[upd_same,h1],h2,RepAll.stp sw.toStp _ _ h3⟩ o
            · simp only[hl,if_false] at o; exact o.elim
theorem Ad {own:List (Str × Nat)} {σ:L2.St} {H:Hp} {Q:VK} {W:WX} (h:tE X W (i3 mi g tc mk mv (own.map (·.2))) σ H Q) :
    tDcT (tI X W mi) (tGc X (own.map (·.2)) g) (tT X W0 tc) (tE X W0 mk) (tE X W0 mv) (own.map (·.2)) σ H Q:=by
  obtain ⟨env,S,μ,rl,o⟩:=h
  generalize own.map (·.2)=vs at *
  refine ⟨env,S,μ,rl,(Out.bind o).mono fun J H1 ⟨μ1,S1,it,st,rs,rd,o1⟩ p hp=>?_⟩
  have rw1:RelE X.K X.mg μ1 H1 (aU env vs) (L2.wipe σ vs):=(rl.env.step st).wipe vs
  generalize aU env vs=w at *
  have sh:Stp μ1 H1 (μ1.hide p) (upd H1 p (.dT [])):=.new_hid hp
  have fin:∀(μ2:Mu) (H2:Hp) (S2:Sto) (acc:List (D × D)),StP p (μ1.hide p) (upd H1 p (.dT [])) μ2 H2→RelS X.K X.mg μ2 H2 S2→vF X.K X.mg μ2 H2 p acc→Out X.K X.mg W σ μ1 H1 (fun μ H a b=>Rep X.K X.mg μ H a b) Q (Res.bind (.ok acc S2) kDT)→Q (.ref p) H2:=by
    intro μ2 H2 S2 acc sp rs2 ⟨ks,us,hp2,hk2,ra⟩ o
    have hpm:p∈μ2.h:=by rw[sp.hid]; exact List.mem_cons_self
    have sub:∀a∈μ1.h,a∈μ2.h:=fun a ha=>by rw[sp.hid]; exact List.mem_cons_of_mem _ ha
    have su:Stp μ2 H2 ⟨μ2.l++[p],μ1.h⟩ H2:=.reveal hpm sub
    have rr:=rs2.reveal (o:=.dct true acc) hpm sub (rs.notinH hp) ⟨us,ks,⟨hp2,hk2⟩,ra⟩
    refine o ⟨μ2.l++[p],μ1.h⟩ H2 (.ref p) ⟨(sh.trans sp.toStp).trans su,rfl,fun a u ha e nt=>sp.hk a u (ne_of_none e hp) (List.mem_cons_of_mem _ ha) (by rw[upd_ne (ne_of_none e hp)]; exact e) nt⟩ rr ?_
    unfold Rep
    exact ⟨p,rfl,by rw[rs2.len]; simp⟩
  have npm:∀ {μ2:Mu} {H2:Hp},StP p (μ1.hide p) (upd H1 p (.dT [])) μ2 H2→p∈μ2.h:=fun sp=>by rw[sp.hid]; exact List.mem_cons_self
  have st0:StP p (μ1.hide p) (upd H1 p (.dT [])) (μ1.hide p) (upd H1 p (.dT [])):=.of .refl
  cases it with
  | items ds=>
    have rd:dZ X.K X.mg μ1 H1 ds J:=rd
    refine ⟨fun i n H=>n+i=ds.length∧∃μ S acc,StP p (μ1.hide p) (upd H1 p (.dT [])) μ H∧RelS X.K X.mg μ H S∧vF X.K X.mg μ H p acc∧Out X.K X.mg W σ μ1 H1 (fun μ H a b=>Rep X.K X.mg μ H a b) Q ((gR g tc mk mv w (ds.drop i) acc S).bind kDT),
      ⟨ds.length,rfl,_,S1,[],st0,rs.hide hp,⟨[],[],upd_same,rfl,.nil⟩,o1⟩,?_⟩
    rintro i n H ⟨hn,μ,S,acc,sp,rs,hpp,o⟩
    have sb:Stp μ1 H1 μ H:=sh.trans sp.toStp
    by_cases hi:i<ds.length
    · have ed:ds.drop i=ds[i]::ds.drop (i+1):=List.drop_eq_getElem_cons hi
      rw[ed] at o
      unfold gR at o
      have o:Out X.K X.mg W σ μ1 H1 (fun μ H a b=>Rep X.K X.mg μ H a b) Q ((g8 g tc mk mv w ds[i] acc S).bindS fun acc S=>(gR g tc mk mv w (ds.drop (i+1)) acc S).bind kDT):=by
        cases hq:g8 g tc mk mv w ds[i] acc S with
        | ok a b=>rw[hq] at o; exact o
        | exc a b=>rw[hq] at o; exact o
        | stuck=>rw[hq] at o; exact o
      refine .inr ⟨rd.goes i μ H hi sb,fun H=>∃μ S acc,StP p (μ1.hide p) (upd H1 p (.dT [])) μ H∧RelS X.K X.mg μ H S∧vF X.K X.mg μ H p acc∧Out X.K X.mg W σ μ1 H1 (fun μ H a b=>Rep X.K X.mg μ H a b) Q ((gR g tc mk mv w (ds.drop (i+1)) acc S).bind kDT),fun H' w=>⟨n - 1,by omega,by omega,w⟩,fun x H' y=>?_⟩
      obtain ⟨sm,rx⟩:=rd.yields i _ μ H S x H' (List.getElem?_eq_getElem hi) sb rs y
      have sx:Step μ H μ H':=.of_sm sm
      have spx:=sp.trans (StP.of sx)
      obtain ⟨ks,us,g1,g2,g3⟩:=hpp
      refine tB ((rw1.stp sh).stp spx.toStp) (rs.sm sm) ⟨ks,us,sm _ _ g1,g2,RepAll.step sx _ _ g3⟩ (npm spx) rx o fun μ3 H3 S3 acc' s3 rs3 hp3 o3=>⟨μ3,S3,acc',spx.trans s3,rs3,hp3,o3⟩
    · have e:i=ds.length:=by omega
      subst e
      rw[List.drop_length] at o
      exact .inl ⟨rd.stops μ H sb,fin μ H S acc sp rs hpp o⟩
  | live l=>
    obtain ⟨a,ha,rfl⟩:=rd
    refine ⟨fun i n H=>∃μ S acc,StP p (μ1.hide p) (upd H1 p (.dT [])) μ H∧RelS X.K X.mg μ H S∧vF X.K X.mg μ H p acc∧Out X.K X.mg W σ μ1 H1 (fun μ H a b=>Rep X.K X.mg μ H a b) Q ((cz g tc mk mv w l n i acc S).bind kDT),
      ⟨_,_,S1,[],st0,rs.hide hp,⟨[],[],upd_same,rfl,.nil⟩,o1⟩,?_⟩
    rintro i n H ⟨μ,S,acc,sp,rs,hpp,o⟩
    have sb:Stp μ1 H1 μ H:=sh.trans sp.toStp
    cases n with
    | zero=>exact o.elim
    | succ n=>
      unfold cz at o
      split at o
      · rename_i xs es
        obtain ⟨a',h1,vs',h2,h3⟩:=rs.at_ _ _ es
        rw[sb.get ha] at h1; cases h1
        split at o
        · rename_i hx
          refine .inl ⟨⟨vs',.of h2,?_⟩,fin μ H S acc sp rs hpp o⟩
          rw[←h3.length]
          exact List.getElem?_eq_none_iff.mp hx
        · rename_i d hx
          obtain ⟨v,hv,rv⟩:=h3.get hx
          have o:Out X.K X.mg W σ μ1 H1 (fun μ H a b=>Rep X.K X.mg μ H a b) Q ((g8 g tc mk mv w d acc S).bindS fun acc S=>(cz g tc mk mv w l n (i+1) acc S).bind kDT):=by
            cases hq:g8 g tc mk mv w d acc S with
            | ok a b=>rw[hq] at o; exact o
            | exc a b=>rw[hq] at o; exact o
            | stuck=>rw[hq] at o; exact o
          refine .inr ⟨⟨vs',v,.of h2,hv⟩,fun H=>∃μ S acc,StP p (μ1.hide p) (upd H1 p (.dT [])) μ H∧RelS X.K X.mg μ H S∧vF X.K X.mg μ H p acc∧Out X.K X.mg W σ μ1 H1 (fun μ H a b=>Rep X.K X.mg μ H a b) Q ((cz g tc mk mv w l n (i+1) acc S).bind kDT),fun H' w=>⟨n,Nat.lt_succ_self n,w⟩,fun x H' y=>?_⟩
          obtain ⟨rfl,y⟩:=y
          have q:=y vs' (.of h2)
          rw[hv] at q; cases q
          exact tB ((rw1.stp sh).stp sp.toStp) rs hpp (npm sp) rv o fun μ3 H3 S3 acc' s3 rs3 hp3 o3=>⟨μ3,S3,acc',sp.trans s3,rs3,hp3,o3⟩
      · exact o.elim
  | liveE l=>exact o1.elim
theorem pU {scope:Scope} {own:List (Str × Nat)} {ifs:List Expr} (hu:X.A.units+65<cLine) (hc:X.calm=true) (hN:X.N.Nodup) (hi:PI X tg iter (tI X W mi)) (ok:BlkOk X.N X.env.scope scope own)
    (hg:∀(s:Shared) (H:Hp) (C:Addr) (cl:List (Str × Addr)) (fp:List Addr),PG (X.blk s H scope (compEnvC scope cl C X.env) fp) tg (tGc (X.blk s H scope (compEnvC scope cl C X.env) fp) (own.map (·.2)) g))
    (ht:∀(s:Shared) (H:Hp) (C:Addr) (cl:List (Str × Addr)) (fp:List Addr),qK (X.blk s H scope (compEnvC scope cl C X.env) fp) ifs tc)
    (hk:∀(s:Shared) (H:Hp) (C:Addr) (cl:List (Str × Addr)) (fp:List Addr),PE (X.blk s H scope (compEnvC scope cl C X.env) fp) kx (tE (X.blk s H scope (compEnvC scope cl C X.env) fp) W0 mk))
    (he:∀(s:Shared) (H:Hp) (C:Addr) (cl:List (Str × Addr)) (fp:List Addr),PE (X.blk s H scope (compEnvC scope cl C X.env) fp) vx (tE (X.blk s H scope (compEnvC scope cl C X.env) fp) W0 mv)) (hs:∀x,foldedSetIterable iter X.env x=pure x:=by intro _; rfl) :
    PE X (.DictComp kx vx [⟨tg,iter,ifs,0⟩] scope pos) (tE X W (i3 mi g tc mk mv (own.map (·.2)))):=
  cA (pe_dcT (g:=tGc X (own.map Prod.snd) g) (tt:=tT X W0 tc) (tk:=tE X W0 mk) (tv:=tE X W0 mv) hu hc hN hi ok hg ht hk he hs) fun σ H Q h=>Ad h
end
@[simp] theorem eDCompT_at (mi:MI) (g:MG) (tc:MT) (mk mv:ME) (vs:List Nat) (env:En) (S:Sto):i3 mi g tc mk mv vs env S=(mi env S).bind fun it S=>match it with
  | .items ds=>(gR g tc mk mv (aU env vs) ds [] S).bind kDT
  | .live l=>(cz g tc mk mv (aU env vs) l (dB S l+1) 0 [] S).bind kDT
  | .liveE _=>.stuck:=rfl
@[simp] theorem kDT_at (kvs:List (D × D)) (S:Sto):kDT kvs S=.ok (.loc S.length) (S++[.dct true kvs]):=rfl
section
variable {E:XV→Sto→Prop}
@[simp ↓] theorem wq_eDCompT (mi:MI) (g:MG) (tc:MT) (mk mv:ME) (vs:List Nat) (env:En) (S:Sto) {Q:D→Sto→Prop}:Res.wp (i3 mi g tc mk mv vs env S) Q E=Res.wp ((mi env S).bind fun it S=>match it with
  | .items ds=>(gR g tc mk mv (aU env vs) ds [] S).bind kDT
  | .live l=>(cz g tc mk mv (aU env vs) l (dB S l+1) 0 [] S).bind kDT
  | .liveE _=>.stuck) Q E:=rfl
@[simp ↓] theorem wq_kDT (kvs:List (D × D)) (S:Sto) {Q:D→Sto→Prop}:Res.wp (kDT kvs S) Q E=Res.wp (.ok (.loc S.length) (S++[.dct true kvs])) Q E:=rfl
end
/-- list(x),x a tuple: a list that is changed later -/
def zB (r:MA):ME:=fun env S=>(r env S).bind fun ds S=>match ds.map (view S) with
  | [.tup ys]=>.ok (.loc S.length) (S++[.lst ys])
  | _=>.stuck
@[simp] theorem eListT_at (r:MA) (env:En) (S:Sto):zB r env S=(r env S).bind fun ds S=>match ds.map (view S) with
  | [.tup ys]=>.ok (.loc S.length) (S++[.lst ys])
  | _=>.stuck:=rfl
@[simp ↓] theorem wq_eListT (r:MA) (env:En) (S:Sto) {Q:D→Sto→Prop} {E:XV→Sto→Prop}:Res.wp (zB r env S) Q E=Res.wp ((r env S).bind fun ds S=>match ds.map (view S) with
  | [.tup ys]=>.ok (.loc S.length) (S++[.lst ys])
  | _=>.stuck) Q E:=rfl
end DL
namespace DL
open PySem PySem.Spec PyProof.Rows L2
def tC (S:Sto) (ds:List D):Option D:=match ds with
  | [.loc l]=>match S[l]? with
    | some (.dct true kvs)=>some (.int (kvs.length:Nat))
    | _=>none
  | _=>none
theorem c_lenT {X:Cx}:CallR X (.builtin "len") (rB X.K X.mg tC):=fb call_len_dT fun xs H Q ⟨μ,S,ds,d,rs,ra,e,q⟩=>by
  unfold tC at e
  split at e
  · rename_i l
    split at e
    · rename_i kvs es
      cases e
      obtain ⟨v,rfl,r1⟩:=b4 ra
      unfold Rep at r1
      obtain ⟨a,rfl,hμ⟩:=r1
      obtain ⟨a',h1,vs,ks,⟨h2,h3⟩,h4⟩:=rs.at_ _ _ es
      rw[hμ] at h1; cases h1
      exact ⟨a,ks.zip vs,rfl,h2,by rw[ir h3 h4]; exact q H _ .rfl (az _)⟩
    · cases e
  · cases e
theorem xC {S:Sto} {l:Nat} {kvs:List (D × D)} (h:S[l]?=some (.dct true kvs)):tC S [.loc l]=some (.int (kvs.length:Nat)):=by simp[tC,h]
end DL
namespace DL
open PySem PySem.Spec PyProof.Rows L2 LamX
def lm:Nat:=1000000000000
noncomputable section
/-- what the head tells of the names -/
abbrev nj:Nat:=130
structure Fx (K:PySem.W.Frag) (mg:Str→Option Value):Prop where
  a_Matcher_ahead:NoAttr K (He.ga K "Matcher") "ahead"
  a_Matcher_behind:NoAttr K (He.ga K "Matcher") "behind"
  a_Matcher_every:NoAttr K (He.ga K "Matcher") "every"
  a_Matcher_nexts:NoAttr K (He.ga K "Matcher") "nexts"
  a_Net_changes:NoAttr K (He.ga K "Net") "changes"
  a_Net_legs:NoAttr K (He.ga K "Net") "legs"
  c_Matcher:Cls K (He.ga K "Matcher")
  c_Net:Cls K (He.ga K "Net")
  d_AirError:mg "AirError"=some (.ref (He.ga K "AirError"))
  d_BadChain:mg "BadChain"=some (.ref (He.ga K "BadChain"))
  d_BadClasses:mg "BadClasses"=some (.ref (He.ga K "BadClasses"))
  d_BadCount:mg "BadCount"=some (.ref (He.ga K "BadCount"))
  d_BadDay:mg "BadDay"=some (.ref (He.ga K "BadDay"))
  d_BadDeed:mg "BadDeed"=some (.ref (He.ga K "BadDeed"))
  d_BadFleet:mg "BadFleet"=some (.ref (He.ga K "BadFleet"))
  d_BadName:mg "BadName"=some (.ref (He.ga K "BadName"))
  d_BadNet:mg "BadNet"=some (.ref (He.ga K "BadNet"))
  d_BadPlace:mg "BadPlace"=some (.ref (He.ga K "BadPlace"))
  d_BadText:mg "BadText"=some (.ref (He.ga K "BadText"))
  d_BadTime:mg "BadTime"=some (.ref (He.ga K "BadTime"))
  d_CannotFly:mg "CannotFly"=some (.ref (He.ga K "CannotFly"))
  d_Left:mg "Left"=some (.ref (He.ga K "Left"))
  d_Matcher:mg "Matcher"=some (.ref (He.ga K "Matcher"))
  d_Net:mg "Net"=some (.ref (He.ga K "Net"))
  d_NoBooking:mg "NoBooking"=some (.ref (He.ga K "NoBooking"))
  d_NoClass:mg "NoClass"=some (.ref (He.ga K "NoClass"))
  d_NoDuty:mg "NoDuty"=some (.ref (He.ga K "NoDuty"))
  d_NoKind:mg "NoKind"=some (.ref (He.ga K "NoKind"))
  d_NoLeg:mg "NoLeg"=some (.ref (He.ga K "NoLeg"))
  d_NoPlane:mg "NoPlane"=some (.ref (He.ga K "NoPlane"))
  d_NoSeat:mg "NoSeat"=some (.ref (He.ga K "NoSeat"))
  d_NoWay:mg "NoWay"=some (.ref (He.ga K "NoWay"))
  d_Taken:mg "Taken"=some (.ref (He.ga K "Taken"))
  d_Unmended:mg "Unmended"=some (.ref (He.ga K "Unmended"))
  d__law_are_chains:mg "_law_are_chains"=some (.ref (He.ga K "_law_are_chains"))
  d__law_can_follow:mg "_law_can_follow"=some (.ref (He.ga K "_law_can_follow"))
  d__law_drawn:mg "_law_drawn"=some (.ref (He.ga K "_law_drawn"))
  d__law_grown:mg "_law_grown"=some (.ref (He.ga K "_law_grown"))
  d__law_kind:mg "_law_kind"=some (.ref (He.ga K "_law_kind"))
  d__law_leave:mg "_law_leave"=some (.ref (He.ga K "_law_leave"))
  d__law_leg:mg "_law_leg"=some (.ref (He.ga K "_law_leg"))
  d__law_many:mg "_law_many"=some (.ref (He.ga K "_law_many"))
  d__law_net:mg "_law_net"=some (.ref (He.ga K "_law_net"))
  d__law_rides:mg "_law_rides"=some (.ref (He.ga K "_law_rides"))
  d__law_shuttle:mg "_law_shuttle"=some (.ref (He.ga K "_law_shuttle"))
  d__law_start:mg "_law_start"=some (.ref (He.ga K "_law_start"))
  d_are_days:mg "are_days"=some (.ref (He.ga K "are_days"))
  d_can_follow:mg "can_follow"=some (.ref (He.ga K "can_follow"))
  d_fewest:mg "fewest"=some (.ref (He.ga K "fewest"))
  d_is_end:mg "is_end"=some (.ref (He.ga K "is_end"))
  d_is_leg:mg "is_leg"=some (.ref (He.ga K "is_leg"))
  d_is_number:mg "is_number"=some (.ref (He.ga K "is_number"))
  d_is_place:mg "is_place"=some (.ref (He.ga K "is_place"))
  d_is_word:mg "is_word"=some (.ref (He.ga K "is_word"))
  d_need_days:mg "need_days"=some (.ref (He.ga K "need_days"))
  d_need_net:mg "need_net"=some (.ref (He.ga K "need_net"))
  d_need_turn:mg "need_turn"=some (.ref (He.ga K "need_turn"))
  d_shown_planes:mg "shown_planes"=some (.ref (He.ga K "shown_planes"))
  e_BadNet:ExcI K (He.ga K "BadNet") (He.ma K (He.ga K "BadNet") "__init__") (He.ga K "AirError") ["part","number"]
  i_DAY:∃t,mg "DAY"=some (.int 1440 t)
  i_LEAST_CHANGE:∃t,mg "LEAST_CHANGE"=some (.int 10 t)
  i_LEAST_LONG:∃t,mg "LEAST_LONG"=some (.int 20 t)
  i_LEAST_TURN:∃t,mg "LEAST_TURN"=some (.int 10 t)
  i_MOST_CHANGE:∃t,mg "MOST_CHANGE"=some (.int 300 t)
  i_MOST_DAY:∃t,mg "MOST_DAY"=some (.int 60 t)
  i_MOST_FARE:∃t,mg "MOST_FARE"=some (.int 100000 t)
  i_MOST_LEGS:∃t,mg "MOST_LEGS"=some (.int 60 t)
  i_MOST_LONG:∃t,mg "MOST_LONG"=some (.int 900 t)
  i_MOST_NUMBER:∃t,mg "MOST_NUMBER"=some (.int 9999 t)
  i_MOST_PLACES:∃t,mg "MOST_PLACES"=some (.int 12 t)
  i_MOST_TURN:∃t,mg "MOST_TURN"=some (.int 300 t)
  i_PLACE_SIZE:∃t,mg "PLACE_SIZE"=some (.int 3 t)
  i_WEEK:∃t,mg "WEEK"=some (.int 7 t)
  k_Matcher:Mk K (He.ga K "Matcher") (He.ma K (He.ga K "Matcher") "__init__")
  k_Net:Mk K (He.ga K "Net") (He.ma K (He.ga K "Net") "__init__")
  m_Matcher_chains:Meth K (He.ga K "Matcher") "chains" (He.ma K (He.ga K "Matcher") "chains")
  m_Matcher_cover:Meth K (He.ga K "Matcher") "cover" (He.ma K (He.ga K "Matcher") "cover")
  m_Matcher_grow:Meth K (He.ga K "Matcher") "grow" (He.ma K (He.ga K "Matcher") "grow")
  m_Net_all_rides:Meth K (He.ga K "Net") "all_rides" (He.ma K (He.ga K "Net") "all_rides")
  m_Net_arrive:Meth K (He.ga K "Net") "arrive" (He.ma K (He.ga K "Net") "arrive")
  m_Net_goal:Meth K (He.ga K "Net") "goal" (He.ma K (He.ga K "Net") "goal")
  m_Net_goes:Meth K (He.ga K "Net") "goes" (He.ma K (He.ga K "Net") "goes")
  m_Net_leave:Meth K (He.ga K "Net") "leave" (He.ma K (He.ga K "Net") "leave")
  m_Net_long:Meth K (He.ga K "Net") "long" (He.ma K (He.ga K "Net") "long")
  m_Net_start:Meth K (He.ga K "Net") "start" (He.ma K (He.ga K "Net") "start")
  n_ValueError:mg "ValueError"=none
  n_all:mg "all"=none
  n_bool:mg "bool"=none
  n_dict:mg "dict"=none
  n_enumerate:mg "enumerate"=none
  n_int:mg "int"=none
  n_isinstance:mg "isinstance"=none
  n_len:mg "len"=none
  n_list:mg "list"=none
  n_min:mg "min"=none
  n_range:mg "range"=none
  n_set:mg "set"=none
  n_sorted:mg "sorted"=none
  n_str:mg "str"=none
  n_tuple:mg "tuple"=none
  n_zip:mg "zip"=none
  s_LETTERS:∃t,mg "LETTERS"=some (.str "abcdefghijklmnopqrstuvwxyz" t)
  x_BadCount:ExcF K (He.ga K "BadCount")
  x_BadDay:ExcF K (He.ga K "BadDay")
structure Gx (P:Program) (w:World) (K:PySem.W.Frag) (mg:Str→Option Value) (base:Heap):Prop where
  fx:Fx K mg
  kx:uh K mg kindsHere
  tb:∀p∈lamDefs,TabB base mg (He.cT K p.1).1 (He.cT K p.1).2
  tm:∀p∈lamDefs,((He.cT K p.1).2,p.2)∈tbs K
  tu:∀p∈lamDefs,∀r∈tbs K,r.1=(He.cT K p.1).2→r.2=p.2
  f_Matcher_cover:∃fd,FunD K "cover" "Matcher.cover" (defArgs (inClass (top 53) 3)) (defBody (inClass (top 53) 3)) (defScope (inClass (top 53) 3)) [] [] (He.ma K (He.ga K "Matcher") "cover") fd
  f_Matcher_chains:∃fd,FunD K "chains" "Matcher.chains" (defArgs (inClass (top 53) 2)) (defBody (inClass (top 53) 2)) (defScope (inClass (top 53) 2)) [] [] (He.ma K (He.ga K "Matcher") "chains") fd
  f_Net_leave:∃fd,FunD K "leave" "Net.leave" (defArgs (inClass (top 46) 7)) (defBody (inClass (top 46) 7)) (defScope (inClass (top 46) 7)) [] [] (He.ma K (He.ga K "Net") "leave") fd
  f_is_number:∃fd,FunD K "is_number" "is_number" (defArgs (top 40)) (defBody (top 40)) (defScope (top 40)) [] [] (He.ga K "is_number") fd
  f_Net_goes:∃fd,FunD K "goes" "Net.goes" (defArgs (inClass (top 46) 1)) (defBody (inClass (top 46) 1)) (defScope (inClass (top 46) 1)) [] [] (He.ma K (He.ga K "Net") "goes") fd
  f_Net_all_rides:∃fd,FunD K "all_rides" "Net.all_rides" (defArgs (inClass (top 46) 9)) (defBody (inClass (top 46) 9)) (defScope (inClass (top 46) 9)) [] [] (He.ma K (He.ga K "Net") "all_rides") fd
  f_Matcher_grow:∃fd,FunD K "grow" "Matcher.grow" (defArgs (inClass (top 53) 1)) (defBody (inClass (top 53) 1)) (defScope (inClass (top 53) 1)) [] [] (He.ma K (He.ga K "Matcher") "grow") fd
  f_Net_long:∃fd,FunD K "long" "Net.long" (defArgs (inClass (top 46) 5)) (defBody (inClass (top 46) 5)) (defScope (inClass (top 46) 5)) [] [] (He.ma K (He.ga K "Net") "long") fd
  f_Net_arrive:∃fd,FunD K "arrive" "Net.arrive" (defArgs (inClass (top 46) 8)) (defBody (inClass (top 46) 8)) (defScope (inClass (top 46) 8)) [] [] (He.ma K (He.ga K "Net") "arrive") fd
  f_Net_goal:∃fd,FunD K "goal" "Net.goal" (defArgs (inClass (top 46) 4)) (defBody (inClass (top 46) 4)) (defScope (inClass (top 46) 4)) [] [] (He.ma K (He.ga K "Net") "goal") fd
  f_Net_start:∃fd,FunD K "start" "Net.start" (defArgs (inClass (top 46) 3)) (defBody (inClass (top 46) 3)) (defScope (inClass (top 46) 3)) [] [] (He.ma K (He.ga K "Net") "start") fd
  f_can_follow:∃fd,FunD K "can_follow" "can_follow" (defArgs (top 52)) (defBody (top 52)) (defScope (top 52)) [] [] (He.ga K "can_follow") fd
  f_Matcher_init__:∃fd,FunD K "__init__" "Matcher.__init__" (defArgs (inClass (top 53) 0)) (defBody (inClass (top 53) 0)) (defScope (inClass (top 53) 0)) [] [] (He.ma K (He.ga K "Matcher") "__init__") fd
  f_need_days:∃fd,FunD K "need_days" "need_days" (defArgs (top 47)) (defBody (top 47)) (defScope (top 47)) [] [] (He.ga K "need_days") fd
  f_need_turn:∃fd,FunD K "need_turn" "need_turn" (defArgs (top 51)) (defBody (top 51)) (defScope (top 51)) [] [] (He.ga K "need_turn") fd
  f_are_days:∃fd,FunD K "are_days" "are_days" (defArgs (top 43)) (defBody (top 43)) (defScope (top 43)) [] [] (He.ga K "are_days") fd
  f_is_leg:∃fd,FunD K "is_leg" "is_leg" (defArgs (top 44)) (defBody (top 44)) (defScope (top 44)) [] [] (He.ga K "is_leg") fd
  f_BadNet_init__:∃fd,FunD K "__init__" "BadNet.__init__" (defArgs (inClass (top 3) 0)) (defBody (inClass (top 3) 0)) (defScope (inClass (top 3) 0)) [] [] (He.ma K (He.ga K "BadNet") "__init__") fd
  f_is_word:∃fd,FunD K "is_word" "is_word" (defArgs (top 41)) (defBody (top 41)) (defScope (top 41)) [] [] (He.ga K "is_word") fd
  f_is_place:∃fd,FunD K "is_place" "is_place" (defArgs (top 42)) (defBody (top 42)) (defScope (top 42)) [] [] (He.ga K "is_place") fd
  f_need_net:∃fd,FunD K "need_net" "need_net" (defArgs (top 45)) (defBody (top 45)) (defScope (top 45)) [] [] (He.ga K "need_net") fd
  f_Net_init__:∃fd,FunD K "__init__" "Net.__init__" (defArgs (inClass (top 46) 0)) (defBody (inClass (top 46) 0)) (defScope (inClass (top 46) 0)) [] [] (He.ma K (He.ga K "Net") "__init__") fd
  f_fewest:∃fd,FunD K "fewest" "fewest" (defArgs (top 54)) (defBody (top 54)) (defScope (top 54)) [] [] (He.ga K "fewest") fd
  f_is_end:∃fd,FunD K "is_end" "is_end" (defArgs (top 55)) (defBody (top 55)) (defScope (top 55)) [] [] (He.ga K "is_end") fd
  f_shown_planes:∃fd,FunD K "shown_planes" "shown_planes" (defArgs (top 56)) (defBody (top 56)) (defScope (top 56)) [] [] (He.ga K "shown_planes") fd
  f_law_kind:∃fd,FunD K "_law_kind" "_law_kind" (defArgs (top 61)) (defBody (top 61)) (defScope (top 61)) [] [] (He.ga K "_law_kind") fd
  f_law_drawn:∃fd,FunD K "_law_drawn" "_law_drawn" (defArgs (top 59)) (defBody (top 59)) (defScope (top 59)) [] [] (He.ga K "_law_drawn") fd
  f_law_leave:∃fd,FunD K "_law_leave" "_law_leave" (defArgs (top 64)) (defBody (top 64)) (defScope (top 64)) [] [] (He.ga K "_law_leave") fd
  f_law_leg:∃fd,FunD K "_law_leg" "_law_leg" (defArgs (top 65)) (defBody (top 65)) (defScope (top 65)) [] [] (He.ga K "_law_leg") fd
  f_law_can_follow:∃fd,FunD K "_law_can_follow" "_law_can_follow" (defArgs (top 67)) (defBody (top 67)) (defScope (top 67)) [] [] (He.ga K "_law_can_follow") fd
  f_law_are_chains:∃fd,FunD K "_law_are_chains" "_law_are_chains" (defArgs (top 70)) (defBody (top 70)) (defScope (top 70)) [] [] (He.ga K "_law_are_chains") fd
  f_law_grown:∃fd,FunD K "_law_grown" "_law_grown" (defArgs (top 68)) (defBody (top 68)) (defScope (top 68)) [] [] (He.ga K "_law_grown") fd
  f_law_many:∃fd,FunD K "_law_many" "_law_many" (defArgs (top 69)) (defBody (top 69)) (defScope (top 69)) [] [] (He.ga K "_law_many") fd
  f_law_rides:∃fd,FunD K "_law_rides" "_law_rides" (defArgs (top 66)) (defBody (top 66)) (defScope (top 66)) [] [] (He.ga K "_law_rides") fd
  f_law_shuttle:∃fd,FunD K "_law_shuttle" "_law_shuttle" (defArgs (top 62)) (defBody (top 62)) (defScope (top 62)) [] [] (He.ga K "_law_shuttle") fd
  f_law_net:∃fd,FunD K "_law_net" "_law_net" (defArgs (top 63)) (defBody (top 63)) (defScope (top 63)) [] [] (He.ga K "_law_net") fd
  f_law_start:∃fd,FunD K "_law_start" "_law_start" (defArgs (top 58)) (defBody (top 58)) (defScope (top 58)) [] [] (He.ga K "_law_start") fd
  f_law:∃fd,FunD K "law" "law" (defArgs (top 71)) (defBody (top 71)) (defScope (top 71)) [] [] (He.ga K "law") fd
abbrev lF:Stmt:=(inClass (top 53) 3)
abbrev N_Matcher_cover:List Str:=["self","waiting","ends","begins","ride","other","found"]
def iG:MS:=aT (bF 1 (mn (cM (du "Matcher" "every" (eV 0))) (gV 4) (tOf (aK cj (eV 4) (du "Matcher" "ahead" (eV 0)))) (eV 4) [4]))
  (aT (gz (cZ (aC (i3 (cM (eV 1)) (gV 4) (cD) (eV 4) (eC (.bool true)) [4]) (aC (qF true) (aJ)))) (fO 2 (bI (gV 2) (bI (gV 3) (gL)))))
  (aT (gS (tOf (aK (lv dNe) (eV 1) (dF (aJ)))) (aT (bF 4 (eM bX bPop (eV 1) aJ))
  (fR (cM (aK fIx (du "Matcher" "nexts" (eV 0)) (eV 4))) (gV 5) (sIf (tOf (aK cj (eV 5) (eV 3))) (aT (gz (eC (.bool true)) (gQ (eV 3) (eV 5)))
  (sIf (tOf (aK cj (aK fIx (du "Matcher" "behind" (eV 0)) (eV 5)) (eV 2))) (aT (gz (eC (.bool true)) (gQ (eV 2) (aK fIx (du "Matcher" "behind" (eV 0)) (eV 5))))
  (dW (eM bX bD (eV 1) (aC (aK fIx (du "Matcher" "behind" (eV 0)) (eV 5)) (aJ))))) (bo))) (bo)))) lm)
  (aT (bF 6 (b6 (cM (du "Matcher" "every" (eV 0))) (gV 4) (tOf (aK cj (eV 4) (eV 2))) (cZ (aC (eC (.int 0)) (aC (eV 4) (aJ)))) [4]))
  (bH (eB jo (aC (eB dP (aC (aK (lv0 bL) (eV 6) (b6 (cM (du "Matcher" "every" (eV 0))) (gV 4) (tOf (aK fIn (eV 4) (eV 3))) (cZ (aC (eC (.int 1)) (aC (eV 4) (aJ)))) [4])) (aJ))) (aJ)))))))
def cr:MF:=bG 6 iG
theorem lG {P:Program} {w:World} {K:PySem.W.Frag} {mg:Str→Option Value} {base:Heap} (G:Gx P w K mg base):FnE P w K mg base 1 (He.ma K (He.ga K "Matcher") "cover") ["self"] cr:=by
  obtain ⟨fd,F⟩:=G.f_Matcher_cover
  have fx:=G.fx
  refine ⟨fd,?_⟩
  refine au (N:=N_Matcher_cover) (st:=lF) (k:=0) F ⟨rfl,rfl,rfl,by decide +kernel,rfl,by decide +kernel,by decide +kernel⟩ rfl (fun _ _ _ _ _ _ us hl=>match us,hl with|[_],_=>rfl) fun cdv A outer s H E hcd hp hr W tk=>?_
  have nd:N_Matcher_cover.Nodup:=by decide +kernel
  have hu1:=ru1 hr
  have hu64:=cS hr
  have hu65:=cU hr
  exact (aG (tA (own:=[("ride",4)]) (i:=1) rfl nd rfl rfl rfl (aw (bp (aB 0) fx.d_Matcher fx.c_Matcher fx.a_Matcher_every)) (blkOk_by (by kernel_rfl)) (fun _ _ _ _ _=>(aq (i:=4) nd rfl (by first|exact .inl rfl|exact .inr rfl) (by decide))) (fun _ _ _ _ _=>(eS (aa (cP hu65) (aB 4) (bp (aB 0) fx.d_Matcher fx.c_Matcher fx.a_Matcher_ahead) (by with_unfolding_all rfl)))) (fun _ _ _ _ _=>(aB 4)))
    (aG (dA (bC (aA (pU (own:=[("ride",4)]) hu65 rfl nd (aw (aB 1)) (blkOk_by (by kernel_rfl)) (fun _ _ _ _ _=>(aq (i:=4) nd rfl (by first|exact .inl rfl|exact .inr rfl) (by decide))) (fun _ _ _ _ _=>cQ) (fun _ _ _ _ _=>(aB 4)) (fun _ _ _ _ _=>bA)) (aA iq aD))) (jQ rfl (bM (ai (i:=2) nd rfl (by first|exact .inl rfl|exact .inr rfl)) (bM (ai (i:=3) nd rfl (by first|exact .inl rfl|exact .inr rfl)) gy))))
    (aG (rR hp lm (aa (jf hu64) (aB 1) (bn aD) (by with_unfolding_all rfl)) (aG (aj (i:=4) nd rfl (by first|exact .inl rfl|exact .inr rfl) (sE_m0 eE PySem.F.plainAttrs_list PySem.F.slot_list_pop PySem.F.type_list_pop m_pop (aB 1)))
    (aL (cN hp rfl (aw (aV hu1 (bp (aB 0) fx.d_Matcher fx.c_Matcher fx.a_Matcher_nexts) (aB 4))) (ai (i:=5) nd rfl (by first|exact .inl rfl|exact .inr rfl)) (aL (bK (aa (cP hu65) (aB 5) (aB 3) (by with_unfolding_all rfl)) (aG (dA bA (fe hu1 (aB 3) (aB 5)))
    (aL (bK (aa (cP hu65) (aV hu1 (bp (aB 0) fx.d_Matcher fx.c_Matcher fx.a_Matcher_behind) (aB 5)) (aB 2) (by with_unfolding_all rfl)) (aG (dA bA (fe hu1 (aB 2) (aV hu1 (bp (aB 0) fx.d_Matcher fx.c_Matcher fx.a_Matcher_behind) (aB 5))))
    (aL (cC (ki eE PySem.F.plainAttrs_list PySem.F.slot_list_append PySem.F.type_list_append dI (aB 1) (aA (aV hu1 (bp (aB 0) fx.d_Matcher fx.c_Matcher fx.a_Matcher_behind) (aB 5)) aD))))) aZ))) aZ))))))
    (aG (mq (own:=[("ride",4)]) (i:=6) rfl nd rfl rfl rfl (aw (bp (aB 0) fx.d_Matcher fx.c_Matcher fx.a_Matcher_every)) (blkOk_by (by kernel_rfl)) (fun _ _ _ _ _=>(aq (i:=4) nd rfl (by first|exact .inl rfl|exact .inr rfl) (by decide))) (fun _ _ _ _ _=>(eS (aa (cP hu65) (aB 4) (aB 2) (by with_unfolding_all rfl)))) (fun _ _ _ _ _=>(bC (aA aE (aA (aB 4) aD)))))
    (aL (aW (jB my rfl fx.n_tuple bS (aA (ax (iW hu65) rfl fx.n_sorted fV (aA (aQ ar (aB 6) (cF (own:=[("ride",4)]) rfl nd (aw (bp (aB 0) fx.d_Matcher fx.c_Matcher fx.a_Matcher_every)) (blkOk_by (by kernel_rfl)) (fun _ _ _ _ _=>(aq (i:=4) nd rfl (by first|exact .inl rfl|exact .inr rfl) (by decide))) (fun _ _ _ _ _=>(eS (aa (oQ hu65) (aB 4) (aB 3) (by with_unfolding_all rfl)))) (fun _ _ _ _ _=>(bC (aA aE (aA (aB 4) aD)))))) aD)) aD))))))))
abbrev j2:Stmt:=(inClass (top 53) 2)
abbrev N_Matcher_chains:List Str:=["self","found","ride","chain"]
def gh:MS:=aT (bF 1 (iR (aJ)))
  (aT (fR (cM (du "Matcher" "every" (eV 0))) (gV 2) (sIf (tOf (aK cj (eV 2) (du "Matcher" "behind" (eV 0)))) (aT (bF 3 (iR (aC (eV 2) (aJ))))
  (aT (gS (tOf (aK fIn (aK fIx (eV 3) (eNeg (eC (.int 1)))) (du "Matcher" "ahead" (eV 0)))) (dW (eM bX bD (eV 3) (aC (aK fIx (du "Matcher" "ahead" (eV 0)) (aK fIx (eV 3) (eNeg (eC (.int 1))))) (aJ)))) lm)
  (dW (eM bX bD (eV 1) (aC (eB jo (aC (eV 3) (aJ))) (aJ)))))) (bo)))
  (bH (eV 1)))
def cV:MF:=bG 3 gh
theorem j3 {P:Program} {w:World} {K:PySem.W.Frag} {mg:Str→Option Value} {base:Heap} (G:Gx P w K mg base):FnE P w K mg base 1 (He.ma K (He.ga K "Matcher") "chains") ["self"] cV:=by
  obtain ⟨fd,F⟩:=G.f_Matcher_chains
  have fx:=G.fx
  refine ⟨fd,?_⟩
  refine au (N:=N_Matcher_chains) (st:=j2) (k:=0) F ⟨rfl,rfl,rfl,by decide +kernel,rfl,by decide +kernel,by decide +kernel⟩ rfl (fun _ _ _ _ _ _ us hl=>match us,hl with|[_],_=>rfl) fun cdv A outer s H E hcd hp hr W tk=>?_
  have nd:N_Matcher_chains.Nodup:=by decide +kernel
  have hu1:=ru1 hr
  have hu64:=cS hr
  have hu65:=cU hr
  exact (aG (aj (i:=1) nd rfl (by first|exact .inl rfl|exact .inr rfl) (gK aD))
    (aG (cN hp rfl (aw (bp (aB 0) fx.d_Matcher fx.c_Matcher fx.a_Matcher_every)) (ai (i:=2) nd rfl (by first|exact .inl rfl|exact .inr rfl)) (aL (bK (aa (cP hu65) (aB 2) (bp (aB 0) fx.d_Matcher fx.c_Matcher fx.a_Matcher_behind) (by with_unfolding_all rfl)) (aG (aj (i:=3) nd rfl (by first|exact .inl rfl|exact .inr rfl) (gK (aA (aB 2) aD)))
    (aG (rR hp lm (aa (oQ hu65) (aV hu1 (aB 3) (uR aE)) (bp (aB 0) fx.d_Matcher fx.c_Matcher fx.a_Matcher_ahead) (by with_unfolding_all rfl)) (aL (cC (ki eE PySem.F.plainAttrs_list PySem.F.slot_list_append PySem.F.type_list_append dI (aB 3) (aA (aV hu1 (bp (aB 0) fx.d_Matcher fx.c_Matcher fx.a_Matcher_ahead) (aV hu1 (aB 3) (uR aE))) aD)))))
    (aL (cC (ki eE PySem.F.plainAttrs_list PySem.F.slot_list_append PySem.F.type_list_append dI (aB 1) (aA (jB my rfl fx.n_tuple bS (aA (aB 3) aD)) aD)))))) aZ)))
    (aL (aW (aB 1)))))
abbrev qb:Stmt:=(inClass (top 46) 7)
abbrev N_Net_leave:List Str:=["self","ride"]
def lp:MS:=bH (aK (lv0 bL) (aK (lv dY) (aK fIx (eV 1) (eC (.int 0))) (eC (.int 1440))) (aK fIx (aK fIx (du "Net" "legs" (eV 0)) (aK fIx (eV 1) (eC (.int 1)))) (eC (.int 3))))
def bc:MF:=bG 0 lp
theorem g9 {P:Program} {w:World} {K:PySem.W.Frag} {mg:Str→Option Value} {base:Heap} (G:Gx P w K mg base):FnE P w K mg base 1 (He.ma K (He.ga K "Net") "leave") ["self","ride"] bc:=by
  obtain ⟨fd,F⟩:=G.f_Net_leave
  have fx:=G.fx
  refine ⟨fd,?_⟩
  refine au (N:=N_Net_leave) (st:=qb) (k:=0) F ⟨rfl,rfl,rfl,by decide +kernel,rfl,by decide +kernel,by decide +kernel⟩ rfl (fun _ _ _ _ _ _ us hl=>match us,hl with|[_,_],_=>rfl) fun cdv A outer s H E hcd hp hr W tk=>?_
  have nd:N_Net_leave.Nodup:=by decide +kernel
  have hu1:=ru1 hr
  have hu64:=cS hr
  have hu65:=cU hr
  exact (aL (aW (aQ ar (aQ cu (aV hu1 (aB 1) aE) (bq fx.i_DAY)) (aV hu1 (aV hu1 (bp (aB 0) fx.d_Net fx.c_Net fx.a_Net_legs) (aV hu1 (aB 1) aE)) aE))))
abbrev qc:Stmt:=(top 40)
abbrev N_is_number:List Str:=["thing","low","high"]
def e9:MS:=bH (jj (eB cG (aC (eV 0) (aC (eC (.ty "int")) (aJ)))) (jj (eNot (eB cG (aC (eV 0) (aC (eC (.ty "bool")) (aJ))))) (jO (lv dLe) (lv dLe) (eV 1) (eV 0) (eV 2))))
def aP:MF:=bG 0 e9
theorem bJ {P:Program} {w:World} {K:PySem.W.Frag} {mg:Str→Option Value} {base:Heap} (G:Gx P w K mg base):FnE P w K mg base 1 (He.ga K "is_number") ["thing","low","high"] aP:=by
  obtain ⟨fd,F⟩:=G.f_is_number
  have fx:=G.fx
  refine ⟨fd,?_⟩
  refine au (N:=N_is_number) (st:=qc) (k:=0) F ⟨rfl,rfl,rfl,by decide +kernel,rfl,by decide +kernel,by decide +kernel⟩ rfl (fun _ _ _ _ _ _ us hl=>match us,hl with|[_,_,_],_=>rfl) fun cdv A outer s H E hcd hp hr W tk=>?_
  have nd:N_is_number.Nodup:=by decide +kernel
  have hu1:=ru1 hr
  have hu64:=cS hr
  have hu65:=cU hr
  exact (aL (aW (fY (ax eg rfl fx.n_isinstance aM (aA (aB 0) (aA (dw rfl fx.n_int yB) aD))) (fY (sE_not (ax eg rfl fx.n_isinstance aM (aA (aB 0) (aA (dw rfl fx.n_bool zv) aD)))) (iQ (xf uQ uQ (aB 1) (aB 0) (aB 2)))))))
abbrev tF:Stmt:=(inClass (top 46) 1)
abbrev N_Net_goes:List Str:=["self","day","number"]
def nq:MS:=bH (jj (aS 3 aP (aC (eV 1) (aC (eC (.int 0)) (aC (eC (.int 60)) (aJ))))) (jj (aK fIn (eV 2) (du "Net" "legs" (eV 0))) (aK fIn (aK (lv lz) (eV 1) (eC (.int 7))) (aK fIx (aK fIx (du "Net" "legs" (eV 0)) (eV 2)) (eC (.int 5))))))
def fv:MF:=bG 0 nq
theorem tH {P:Program} {w:World} {K:PySem.W.Frag} {mg:Str→Option Value} {base:Heap} (G:Gx P w K mg base):FnE P w K mg base 2 (He.ma K (He.ga K "Net") "goes") ["self","day","number"] fv:=by
  obtain ⟨fd,F⟩:=G.f_Net_goes
  have fx:=G.fx
  refine ⟨fd,?_⟩
  refine au (N:=N_Net_goes) (st:=tF) (k:=1) F ⟨rfl,rfl,rfl,by decide +kernel,rfl,by decide +kernel,by decide +kernel⟩ rfl (fun _ _ _ _ _ _ us hl=>match us,hl with|[_,_,_],_=>rfl) fun cdv A outer s H E hcd hp hr W tk=>?_
  have nd:N_Net_goes.Nodup:=by decide +kernel
  have hu1:=ru1 hr
  have hu64:=cS hr
  have hu65:=cU hr
  exact (aL (aW (fY (aN (ps:=["thing","low","high"]) (m:=aP) (bJ G) (hr.mono (by decide)) fx.d_is_number tk (aA (aB 1) (aA aE (aA (bq fx.i_MOST_DAY) aD)))) (fY (eD (oQ hu65) (aB 2) (bp (aB 0) fx.d_Net fx.c_Net fx.a_Net_legs) (by with_unfolding_all rfl)) (iQ (eD (oQ hu65) (aQ iN (aB 1) (bq fx.i_WEEK)) (aV hu1 (aV hu1 (bp (aB 0) fx.d_Net fx.c_Net fx.a_Net_legs) (aB 2)) aE) (by with_unfolding_all rfl)))))))
abbrev gi:Stmt:=(inClass (top 46) 9)
abbrev N_Net_all_rides:List Str:=["self","first","last","found","day","number","ride"]
def iH:MS:=aT (sC (du "Net" "legs" (eV 0)) (bF 3 (nJ (kZ (aC (eV 1) (aC (aK (lv0 bL) (eV 2) (eC (.int 1))) (aJ)))) (gV 4) (cD) (cM (du "Net" "legs" (eV 0))) (gV 5) (cB (dG "Net" "goes" 3 fv (eV 0) (aC (eV 4) (aC (eV 5) (aJ))))) (cZ (aC (eV 4) (aC (eV 5) (aJ)))) [4,5] [5])))
  (bH (gY (eV 3) 6 (cZ (aC (dG "Net" "leave" 2 bc (eV 0) (aC (eV 6) (aJ))) (aC (aK fIx (eV 6) (eC (.int 1))) (aJ))))))
def bj:MF:=bG 4 iH
theorem gj {P:Program} {w:World} {K:PySem.W.Frag} {mg:Str→Option Value} {base:Heap} (G:Gx P w K mg base):FnE P w K mg base 5 (He.ma K (He.ga K "Net") "all_rides") ["self","first","last"] bj:=by
  obtain ⟨fd,F⟩:=G.f_Net_all_rides
  have fx:=G.fx
  refine ⟨fd,?_⟩
  refine au (N:=N_Net_all_rides) (st:=gi) (k:=4) F ⟨rfl,rfl,rfl,by decide +kernel,rfl,by decide +kernel,by decide +kernel⟩ rfl (fun _ _ _ _ _ _ us hl=>match us,hl with|[_,_,_],_=>rfl) fun cdv A outer s H E hcd hp hr W tk=>?_
  have nd:N_Net_all_rides.Nodup:=by decide +kernel
  have hu1:=ru1 hr
  have hu64:=cS hr
  have hu65:=cU hr
  have lh:=m9 (X:=cxOf (L2N.CX P w) P w K mg base N_Net_all_rides "Net.all_rides" (defScope gi) (He.ma K (He.ga K "Net") "all_rides") cdv A outer s H E) (p:=("Net",some "all_rides")) F rfl (G.tb (("Net",some "all_rides"),"Net.all_rides.<locals>.<lambda>") (by decide)) hcd.symm rfl (G.tm (("Net",some "all_rides"),"Net.all_rides.<locals>.<lambda>") (by decide)) (G.tu (("Net",some "all_rides"),"Net.all_rides.<locals>.<lambda>") (by decide))
  exact (aG (z5 (sE (own:=[("day",4),("number",5)]) (vs1:=[5]) (i:=3) rfl nd rfl rfl rfl (qI rfl fx.n_range (aA (aB 1) (aA (aQ ar (aB 2) aE) aD))) (blkOk_by (by kernel_rfl)) (by decide) (fun _ _ _ _ _=>(aq (i:=4) nd rfl (by first|exact .inl rfl|exact .inr rfl) (by decide))) (fun _ _ _ _ _=>cQ) (fun _ _ _ _ _=>(aw (bp (aB 0) fx.d_Net fx.c_Net fx.a_Net_legs))) (fun _ _ _ _ _=>(aq (i:=5) nd rfl (by first|exact .inl rfl|exact .inr rfl) (by decide))) (fun _ _ _ _ _=>(eS (ay (dQ (pl:=plainOf _ _) (ps:=["self","day","number"]) (m:=fv) (aB 0) fx.d_Net fx.c_Net fx.m_Net_goes (tH G) (hr.mono (by decide)) takes0 (aA (aB 4) (aA (aB 5) aD)))))) (fun _ _ _ _ _=>(bC (aA (aB 4) (aA (aB 5) aD))))))
    (aL (aW (uk (k:=1) (i:=6) (x:="ride") rfl fx.n_sorted lh (hr.mono (by decide)) hu65 (fi (by kernel_rfl)) nd rfl (aB 3) (fun A outer s H f c' hr=>by
    have hu1:=ru1 hr
    have hu64:=cS hr
    have hu65:=cU hr
    exact (bC (aA (dQ (pl:=plainOf _ _) (ps:=["self","ride"]) (m:=bc) (aB 0) fx.d_Net fx.c_Net fx.m_Net_leave (g9 G) (hr.mono (by decide)) takes0 (aA (aB 6) aD)) (aA (aV hu1 (aB 6) aE) aD))))))))
abbrev iI:Stmt:=(inClass (top 53) 1)
abbrev N_Matcher_grow:List Str:=["self","ride","met","other"]
def bf:Nat→MF
  | 0=>bG 1 jP
  | n+1=>bG 1 (aT (fR (cM (aK fIx (du "Matcher" "nexts" (eV 0)) (eV 1))) (gV 3) (sIf (tOf (aK cj (eV 3) (eV 2))) (aT (gz (eC (.bool true)) (gQ (eV 2) (eV 3)))
  (sIf (c9 (tOf (aK cj (eV 3) (du "Matcher" "behind" (eV 0)))) (cB (dG "Matcher" "grow" 3 (bf n) (eV 0) (aC (aK fIx (du "Matcher" "behind" (eV 0)) (eV 3)) (aC (eV 2) (aJ)))))) (aT (gz (eV 1) (gQ (du "Matcher" "behind" (eV 0)) (eV 3)))
  (aT (gz (eV 3) (gQ (du "Matcher" "ahead" (eV 0)) (eV 1)))
  (bH (eC (.bool true))))) (bo))) (bo)))
  (bH (eC (.bool false))))
theorem iJ {P:Program} {w:World} {K:PySem.W.Frag} {mg:Str→Option Value} {base:Heap} (G:Gx P w K mg base):∀n:Nat,FnE P w K mg base (n+1) (He.ma K (He.ga K "Matcher") "grow") ["self","ride","met"] (bf n)
  | 0=>by
    obtain ⟨fd,F⟩:=G.f_Matcher_grow
    have h:FnE P w K mg base 1 (He.ma K (He.ga K "Matcher") "grow") ["self","ride","met"] (bG 1 jP):=by
      refine ⟨fd,?_⟩
      refine au (N:=N_Matcher_grow) (st:=iI) (k:=0) F ⟨rfl,rfl,rfl,by decide +kernel,rfl,by decide +kernel,by decide +kernel⟩ rfl (fun _ _ _ _ _ _ us hl=>match us,hl with|[_,_,_],_=>rfl) fun cdv A outer s H E hcd hp hr W tk=>?_
      exact pB
    rw[Nat.zero_add]
    exact h
  | n+1=>by
    have ih:=iJ G n
    obtain ⟨fd,F⟩:=G.f_Matcher_grow
    have fx:=G.fx
    have h:FnE P w K mg base (n+1+1) (He.ma K (He.ga K "Matcher") "grow") ["self","ride","met"] (bf (n+1)):=by
      refine ⟨fd,?_⟩
      refine au (N:=N_Matcher_grow) (st:=iI) (k:=n+1) F ⟨rfl,rfl,rfl,by decide +kernel,rfl,by decide +kernel,by decide +kernel⟩ rfl (fun _ _ _ _ _ _ us hl=>match us,hl with|[_,_,_],_=>rfl) fun cdv A outer s H E hcd hp hr W tk=>?_
      have nd:N_Matcher_grow.Nodup:=by decide +kernel
      have hu1:=ru1 hr
      have hu64:=cS hr
      have hu65:=cU hr
      exact (aG (cN hp rfl (aw (aV hu1 (bp (aB 0) fx.d_Matcher fx.c_Matcher fx.a_Matcher_nexts) (aB 1))) (ai (i:=3) nd rfl (by first|exact .inl rfl|exact .inr rfl)) (aL (bK (aa (cP hu65) (aB 3) (aB 2) (by with_unfolding_all rfl)) (aG (dA bA (fe hu1 (aB 2) (aB 3)))
    (aL (bK (bv (cO (aa (cP hu65) (aB 3) (bp (aB 0) fx.d_Matcher fx.c_Matcher fx.a_Matcher_behind) (by with_unfolding_all rfl)) (cK (ay (dQ (pl:=plainOf _ _) (ps:=["self","ride","met"]) (m:=(bf n)) (aB 0) fx.d_Matcher fx.c_Matcher fx.m_Matcher_grow ih hr tk (aA (aV hu1 (bp (aB 0) fx.d_Matcher fx.c_Matcher fx.a_Matcher_behind) (aB 3)) (aA (aB 2) aD))))))) (aG (dA (aB 1) (fe hu1 (bp (aB 0) fx.d_Matcher fx.c_Matcher fx.a_Matcher_behind) (aB 3)))
    (aG (dA (aB 3) (fe hu1 (bp (aB 0) fx.d_Matcher fx.c_Matcher fx.a_Matcher_ahead) (aB 1)))
    (aL (aW bA)))) aZ))) aZ)))
    (aL (aW bA)))
    rw[show n+1+1=n+1+1 by omega]
    exact h
abbrev tJ:Stmt:=(inClass (top 46) 5)
abbrev N_Net_long:List Str:=["self","ride"]
def nr:MS:=bH (aK fIx (aK fIx (du "Net" "legs" (eV 0)) (aK fIx (eV 1) (eC (.int 1)))) (eC (.int 4)))
def fz:MF:=bG 0 nr
theorem tL {P:Program} {w:World} {K:PySem.W.Frag} {mg:Str→Option Value} {base:Heap} (G:Gx P w K mg base):FnE P w K mg base 1 (He.ma K (He.ga K "Net") "long") ["self","ride"] fz:=by
  obtain ⟨fd,F⟩:=G.f_Net_long
  have fx:=G.fx
  refine ⟨fd,?_⟩
  refine au (N:=N_Net_long) (st:=tJ) (k:=0) F ⟨rfl,rfl,rfl,by decide +kernel,rfl,by decide +kernel,by decide +kernel⟩ rfl (fun _ _ _ _ _ _ us hl=>match us,hl with|[_,_],_=>rfl) fun cdv A outer s H E hcd hp hr W tk=>?_
  have nd:N_Net_long.Nodup:=by decide +kernel
  have hu1:=ru1 hr
  have hu64:=cS hr
  have hu65:=cU hr
  exact (aL (aW (aV hu1 (aV hu1 (bp (aB 0) fx.d_Net fx.c_Net fx.a_Net_legs) (aV hu1 (aB 1) aE)) aE)))
abbrev oW:Stmt:=(inClass (top 46) 8)
abbrev N_Net_arrive:List Str:=["self","ride"]
def j4:MS:=bH (aK (lv0 bL) (dG "Net" "leave" 2 bc (eV 0) (aC (eV 1) (aJ))) (dG "Net" "long" 2 fz (eV 0) (aC (eV 1) (aJ))))
def c7:MF:=bG 0 j4
theorem oX {P:Program} {w:World} {K:PySem.W.Frag} {mg:Str→Option Value} {base:Heap} (G:Gx P w K mg base):FnE P w K mg base 2 (He.ma K (He.ga K "Net") "arrive") ["self","ride"] c7:=by
  obtain ⟨fd,F⟩:=G.f_Net_arrive
  have fx:=G.fx
  refine ⟨fd,?_⟩
  refine au (N:=N_Net_arrive) (st:=oW) (k:=1) F ⟨rfl,rfl,rfl,by decide +kernel,rfl,by decide +kernel,by decide +kernel⟩ rfl (fun _ _ _ _ _ _ us hl=>match us,hl with|[_,_],_=>rfl) fun cdv A outer s H E hcd hp hr W tk=>?_
  have nd:N_Net_arrive.Nodup:=by decide +kernel
  have hu1:=ru1 hr
  have hu64:=cS hr
  have hu65:=cU hr
  exact (aL (aW (aQ ar (dQ (pl:=plainOf _ _) (ps:=["self","ride"]) (m:=bc) (aB 0) fx.d_Net fx.c_Net fx.m_Net_leave (g9 G) (hr.mono (by decide)) tk (aA (aB 1) aD)) (dQ (pl:=plainOf _ _) (ps:=["self","ride"]) (m:=fz) (aB 0) fx.d_Net fx.c_Net fx.m_Net_long (tL G) (hr.mono (by decide)) tk (aA (aB 1) aD)))))
abbrev tN:Stmt:=(inClass (top 46) 4)
abbrev N_Net_goal:List Str:=["self","ride"]
def nw:MS:=bH (aK fIx (aK fIx (du "Net" "legs" (eV 0)) (aK fIx (eV 1) (eC (.int 1)))) (eC (.int 2)))
def eO:MF:=bG 0 nw
theorem tO {P:Program} {w:World} {K:PySem.W.Frag} {mg:Str→Option Value} {base:Heap} (G:Gx P w K mg base):FnE P w K mg base 1 (He.ma K (He.ga K "Net") "goal") ["self","ride"] eO:=by
  obtain ⟨fd,F⟩:=G.f_Net_goal
  have fx:=G.fx
  refine ⟨fd,?_⟩
  refine au (N:=N_Net_goal) (st:=tN) (k:=0) F ⟨rfl,rfl,rfl,by decide +kernel,rfl,by decide +kernel,by decide +kernel⟩ rfl (fun _ _ _ _ _ _ us hl=>match us,hl with|[_,_],_=>rfl) fun cdv A outer s H E hcd hp hr W tk=>?_
  have nd:N_Net_goal.Nodup:=by decide +kernel
  have hu1:=ru1 hr
  have hu64:=cS hr
  have hu65:=cU hr
  exact (aL (aW (aV hu1 (aV hu1 (bp (aB 0) fx.d_Net fx.c_Net fx.a_Net_legs) (aV hu1 (aB 1) aE)) aE)))
abbrev qd:Stmt:=(inClass (top 46) 3)
abbrev N_Net_start:List Str:=["self","ride"]
def lq:MS:=bH (aK fIx (aK fIx (du "Net" "legs" (eV 0)) (aK fIx (eV 1) (eC (.int 1)))) (eC (.int 1)))
def dX:MF:=bG 0 lq
theorem qe {P:Program} {w:World} {K:PySem.W.Frag} {mg:Str→Option Value} {base:Heap} (G:Gx P w K mg base):FnE P w K mg base 1 (He.ma K (He.ga K "Net") "start") ["self","ride"] dX:=by
  obtain ⟨fd,F⟩:=G.f_Net_start
  have fx:=G.fx
  refine ⟨fd,?_⟩
  refine au (N:=N_Net_start) (st:=qd) (k:=0) F ⟨rfl,rfl,rfl,by decide +kernel,rfl,by decide +kernel,by decide +kernel⟩ rfl (fun _ _ _ _ _ _ us hl=>match us,hl with|[_,_],_=>rfl) fun cdv A outer s H E hcd hp hr W tk=>?_
  have nd:N_Net_start.Nodup:=by decide +kernel
  have hu1:=ru1 hr
  have hu64:=cS hr
  have hu65:=cU hr
  exact (aL (aW (aV hu1 (aV hu1 (bp (aB 0) fx.d_Net fx.c_Net fx.a_Net_legs) (aV hu1 (aB 1) aE)) aE)))
abbrev oY:Stmt:=(top 52)
abbrev N_can_follow:List Str:=["held","turn","one","other"]
def j5:MS:=bH (jj (aK (lv dEq) (dG "Net" "goal" 2 eO (eV 0) (aC (eV 2) (aJ))) (dG "Net" "start" 2 dX (eV 0) (aC (eV 3) (aJ)))) (aK (lv dLe) (aK (lv0 bL) (dG "Net" "arrive" 2 c7 (eV 0) (aC (eV 2) (aJ))) (eV 1)) (dG "Net" "leave" 2 bc (eV 0) (aC (eV 3) (aJ)))))
def br:MF:=bG 0 j5
theorem jE {P:Program} {w:World} {K:PySem.W.Frag} {mg:Str→Option Value} {base:Heap} (G:Gx P w K mg base):FnE P w K mg base 3 (He.ga K "can_follow") ["held","turn","one","other"] br:=by
  obtain ⟨fd,F⟩:=G.f_can_follow
  have fx:=G.fx
  refine ⟨fd,?_⟩
  refine au (N:=N_can_follow) (st:=oY) (k:=2) F ⟨rfl,rfl,rfl,by decide +kernel,rfl,by decide +kernel,by decide +kernel⟩ rfl (fun _ _ _ _ _ _ us hl=>match us,hl with|[_,_,_,_],_=>rfl) fun cdv A outer s H E hcd hp hr W tk=>?_
  have nd:N_can_follow.Nodup:=by decide +kernel
  have hu1:=ru1 hr
  have hu64:=cS hr
  have hu65:=cU hr
  exact (aL (aW (fY (eD (i9 hu64) (dQ (pl:=plainOf _ _) (ps:=["self","ride"]) (m:=eO) (aB 0) fx.d_Net fx.c_Net fx.m_Net_goal (tO G) (hr.mono (by decide)) tk (aA (aB 2) aD)) (dQ (pl:=plainOf _ _) (ps:=["self","ride"]) (m:=dX) (aB 0) fx.d_Net fx.c_Net fx.m_Net_start (qe G) (hr.mono (by decide)) tk (aA (aB 3) aD)) (by with_unfolding_all rfl)) (iQ (eD uQ (aQ ar (dQ (pl:=plainOf _ _) (ps:=["self","ride"]) (m:=c7) (aB 0) fx.d_Net fx.c_Net fx.m_Net_arrive (oX G) (hr.mono (by decide)) tk (aA (aB 2) aD)) (aB 1)) (dQ (pl:=plainOf _ _) (ps:=["self","ride"]) (m:=bc) (aB 0) fx.d_Net fx.c_Net fx.m_Net_leave (g9 G) (hr.mono (by decide)) tk (aA (aB 3) aD)) (by with_unfolding_all rfl))))))
abbrev j6:Stmt:=(inClass (top 53) 0)
abbrev N_Matcher_init__:List Str:=["self","held","turn","rides","ride","one","other"]
def gk:MS:=aT (jn "Matcher" "every" (eV 0) (eV 3))
  (aT (jn "Matcher" "nexts" (eV 0) (i3 (cM (eV 3)) (gV 5) (cD) (eV 5) (b6 (cM (eV 3)) (gV 6) (cB (aS 4 br (aC (eV 1) (aC (eV 2) (aC (eV 5) (aC (eV 6) (aJ))))))) (eV 6) [6]) [5]))
  (aT (jn "Matcher" "behind" (eV 0) (qF true))
  (aT (jn "Matcher" "ahead" (eV 0) (qF true))
  (fR (cM (eV 3)) (gV 4) (dW (dG "Matcher" "grow" 3 (bf 120) (eV 0) (aC (eV 4) (aC (qF true) (aJ)))))))))
def cW:MF:=bG 3 gk
theorem j7 {P:Program} {w:World} {K:PySem.W.Frag} {mg:Str→Option Value} {base:Heap} (G:Gx P w K mg base):FnE P w K mg base 122 (He.ma K (He.ga K "Matcher") "__init__") ["self","held","turn","rides"] cW:=by
  obtain ⟨fd,F⟩:=G.f_Matcher_init__
  have fx:=G.fx
  refine ⟨fd,?_⟩
  refine au (N:=N_Matcher_init__) (st:=j6) (k:=121) F ⟨rfl,rfl,rfl,by decide +kernel,rfl,by decide +kernel,by decide +kernel⟩ rfl (fun _ _ _ _ _ _ us hl=>match us,hl with|[_,_,_,_],_=>rfl) fun cdv A outer s H E hcd hp hr W tk=>?_
  have nd:N_Matcher_init__.Nodup:=by decide +kernel
  have hu1:=ru1 hr
  have hu64:=cS hr
  have hu65:=cU hr
  exact (aG (kg (aB 3) (aB 0) fx.d_Matcher fx.c_Matcher fx.a_Matcher_every)
    (aG (kg (pU (own:=[("one",5)]) hu65 rfl nd (aw (aB 3)) (blkOk_by (by kernel_rfl)) (fun _ _ _ _ _=>(aq (i:=5) nd rfl (by first|exact .inl rfl|exact .inr rfl) (by decide))) (fun _ _ _ _ _=>cQ) (fun _ _ _ _ _=>(aB 5)) (fun _ _ _ _ _=>(cF (own:=[("other",6)]) rfl nd (aw (aB 3)) (blkOk_by (by kernel_rfl)) (fun _ _ _ _ _=>(aq (i:=6) nd rfl (by first|exact .inl rfl|exact .inr rfl) (by decide))) (fun _ _ _ _ _=>(eS (ay (aN (ps:=["held","turn","one","other"]) (m:=br) (jE G) (hr.mono (by decide)) fx.d_can_follow takes0 (aA (aB 1) (aA (aB 2) (aA (aB 5) (aA (aB 6) aD)))))))) (fun _ _ _ _ _=>(aB 6))))) (aB 0) fx.d_Matcher fx.c_Matcher fx.a_Matcher_nexts)
    (aG (kg iq (aB 0) fx.d_Matcher fx.c_Matcher fx.a_Matcher_behind)
    (aG (kg iq (aB 0) fx.d_Matcher fx.c_Matcher fx.a_Matcher_ahead)
    (aL (cN hp rfl (aw (aB 3)) (ai (i:=4) nd rfl (by first|exact .inl rfl|exact .inr rfl)) (aL (cC (dQ (pl:=plainOf _ _) (ps:=["self","ride","met"]) (m:=(bf 120)) (aB 0) fx.d_Matcher fx.c_Matcher fx.m_Matcher_grow (iJ G 120) (hr.mono (by decide)) tk (aA (aB 4) (aA iq aD)))))))))))
abbrev qf:Stmt:=(top 47)
abbrev N_need_days:List Str:=["first","last"]
def iZ:MS:=sIf (c9 (bW (cB (aS 3 aP (aC (eV 0) (aC (eC (.int 0)) (aC (eC (.int 60)) (aJ))))))) (bW (cB (aS 3 aP (aC (eV 1) (aC (eV 0) (aC (eC (.int 60)) (aJ)))))))) (m8 "BadDay") (bo)
def cH:MF:=bG 0 iZ
theorem j8 {P:Program} {w:World} {K:PySem.W.Frag} {mg:Str→Option Value} {base:Heap} (G:Gx P w K mg base):FnE P w K mg base 2 (He.ga K "need_days") ["first","last"] cH:=by
  obtain ⟨fd,F⟩:=G.f_need_days
  have fx:=G.fx
  refine ⟨fd,?_⟩
  refine au (N:=N_need_days) (st:=qf) (k:=1) F ⟨rfl,rfl,rfl,by decide +kernel,rfl,by decide +kernel,by decide +kernel⟩ rfl (fun _ _ _ _ _ _ us hl=>match us,hl with|[_,_],_=>rfl) fun cdv A outer s H E hcd hp hr W tk=>?_
  have nd:N_need_days.Nodup:=by decide +kernel
  have hu1:=ru1 hr
  have hu64:=cS hr
  have hu65:=cU hr
  exact (aL (bK (bv (cO (bN (ay (aN (ps:=["thing","low","high"]) (m:=aP) (bJ G) (hr.mono (by decide)) fx.d_is_number tk (aA (aB 0) (aA aE (aA (bq fx.i_MOST_DAY) aD)))))) (cK (bN (ay (aN (ps:=["thing","low","high"]) (m:=aP) (bJ G) (hr.mono (by decide)) fx.d_is_number tk (aA (aB 1) (aA (aB 0) (aA (bq fx.i_MOST_DAY) aD))))))))) (aL (rm rfl tk fx.x_BadDay fx.d_BadDay rfl)) aZ))
abbrev qg:Stmt:=(top 51)
abbrev N_need_turn:List Str:=["turn"]
def ia:MS:=sIf (bW (cB (aS 3 aP (aC (eV 0) (aC (eC (.int 10)) (aC (eC (.int 300)) (aJ))))))) (m8 "BadCount") (bo)
def cI:MF:=bG 0 ia
theorem j9 {P:Program} {w:World} {K:PySem.W.Frag} {mg:Str→Option Value} {base:Heap} (G:Gx P w K mg base):FnE P w K mg base 2 (He.ga K "need_turn") ["turn"] cI:=by
  obtain ⟨fd,F⟩:=G.f_need_turn
  have fx:=G.fx
  refine ⟨fd,?_⟩
  refine au (N:=N_need_turn) (st:=qg) (k:=1) F ⟨rfl,rfl,rfl,by decide +kernel,rfl,by decide +kernel,by decide +kernel⟩ rfl (fun _ _ _ _ _ _ us hl=>match us,hl with|[_],_=>rfl) fun cdv A outer s H E hcd hp hr W tk=>?_
  have nd:N_need_turn.Nodup:=by decide +kernel
  have hu1:=ru1 hr
  have hu64:=cS hr
  have hu65:=cU hr
  exact (aL (bK (bN (ay (aN (ps:=["thing","low","high"]) (m:=aP) (bJ G) (hr.mono (by decide)) fx.d_is_number tk (aA (aB 0) (aA (bq fx.i_LEAST_TURN) (aA (bq fx.i_MOST_TURN) aD)))))) (aL (rm rfl tk fx.x_BadCount fx.d_BadCount rfl)) aZ))
abbrev tQ:Stmt:=(top 43)
abbrev N_are_days:List Str:=["days","day","one","other"]
def ny:MS:=aT (sIf (c9 (bW (cB (eB cG (aC (eV 0) (aC (eC (.ty "tuple")) (aJ)))))) (c9 (tOf (aK (lv dEq) (eV 0) (cZ (aJ)))) (bW (cB (eB kh (aC (b6 (cM (eV 0)) (gV 1) (cD) (aS 3 aP (aC (eV 1) (aC (eC (.int 0)) (aC (aK (lv qB) (eC (.int 7)) (eC (.int 1))) (aJ))))) [1]) (aJ))))))) (bH (eC (.bool false))) (bo))
  (bH (eB kh (aC (b6 (vo (aC (eV 0) (aC (rK (eV 0) (lU (eC (.int 1))) (pNo)) (aJ)))) (fO 2 (bI (gV 2) (bI (gV 3) (gL)))) (cD) (aK (lv dLt) (eV 2) (eV 3)) [2,3]) (aJ))))
def f7:MF:=bG 3 ny
theorem tR {P:Program} {w:World} {K:PySem.W.Frag} {mg:Str→Option Value} {base:Heap} (G:Gx P w K mg base):FnE P w K mg base 2 (He.ga K "are_days") ["days"] f7:=by
  obtain ⟨fd,F⟩:=G.f_are_days
  have fx:=G.fx
  refine ⟨fd,?_⟩
  refine au (N:=N_are_days) (st:=tQ) (k:=1) F ⟨rfl,rfl,rfl,by decide +kernel,rfl,by decide +kernel,by decide +kernel⟩ rfl (fun _ _ _ _ _ _ us hl=>match us,hl with|[_],_=>rfl) fun cdv A outer s H E hcd hp hr W tk=>?_
  have nd:N_are_days.Nodup:=by decide +kernel
  have hu1:=ru1 hr
  have hu64:=cS hr
  have hu65:=cU hr
  exact (aG (bK (bv (cO (bN (ay (ax eg rfl fx.n_isinstance aM (aA (aB 0) (aA (dw rfl fx.n_tuple bS) aD))))) (cO (aa (i9 hu64) (aB 0) (bC aD) (by with_unfolding_all rfl)) (cK (bN (ay (ax (rf rfl) rfl fx.n_all nA (aA (cF (own:=[("day",1)]) rfl nd (aw (aB 0)) (blkOk_by (by kernel_rfl)) (fun _ _ _ _ _=>(aq (i:=1) nd rfl (by first|exact .inl rfl|exact .inr rfl) (by decide))) (fun _ _ _ _ _=>cQ) (fun _ _ _ _ _=>(aN (ps:=["thing","low","high"]) (m:=aP) (bJ G) (hr.mono (by decide)) fx.d_is_number takes0 (aA (aB 1) (aA aE (aA (aQ lR (bq fx.i_WEEK) aE) aD)))))) aD)))))))) (aL (aW bA)) aZ)
    (aL (aW (ax (rf rfl) rfl fx.n_all nA (aA (cF (own:=[("one",2),("other",3)]) rfl nd (pI_zip rfl fx.n_zip (aA (aB 0) (aA (mW (aB 0) (ji aE) rL) aD))) (blkOk_by (by kernel_rfl)) (fun _ _ _ _ _=>(qJ rfl (dg (aq (i:=2) nd rfl (by first|exact .inl rfl|exact .inr rfl) (by decide)) (dg (aq (i:=3) nd rfl (by first|exact .inl rfl|exact .inr rfl) (by decide)) mD)))) (fun _ _ _ _ _=>cQ) (fun _ _ _ _ _=>(eD o_lt (aB 2) (aB 3) (by with_unfolding_all rfl)))) aD)))))
abbrev xD:Stmt:=(top 44)
abbrev N_is_leg:List Str:=["leg","ahead","names","number","start","goal","out","long","days","fare","one"]
def tU:MS:=aT (sIf (c9 (bW (cB (eB cG (aC (eV 0) (aC (eC (.ty "tuple")) (aJ)))))) (tOf (aK (lv dNe) (eB cx (aC (eV 0) (aJ))) (eC (.int 7))))) (bH (eC (.bool false))) (bo))
  (aT (gz (eV 0) (fO 7 (bI (gV 3) (bI (gV 4) (bI (gV 5) (bI (gV 6) (bI (gV 7) (bI (gV 8) (bI (gV 9) (gL))))))))))
  (aT (sIf (c9 (bW (cB (aS 3 aP (aC (eV 3) (aC (eC (.int 1)) (aC (eC (.int 9999)) (aJ))))))) (tOf (aK fIn (eV 3) (b6 (cM (eV 1)) (gV 10) (cD) (aK fIx (eV 10) (eC (.int 0))) [10])))) (bH (eC (.bool false))) (bo))
  (aT (sIf (c9 (bW (cB (eB cG (aC (eV 4) (aC (eC (.ty "str")) (aJ)))))) (c9 (bW (cB (eB cG (aC (eV 5) (aC (eC (.ty "str")) (aJ)))))) (tOf (aK (lv dEq) (eV 4) (eV 5))))) (bH (eC (.bool false))) (bo))
  (aT (sIf (c9 (tOf (aK cj (eV 4) (eV 2))) (c9 (tOf (aK cj (eV 5) (eV 2))) (bW (cB (aS 1 f7 (aC (eV 8) (aJ))))))) (bH (eC (.bool false))) (bo))
  (bH (jj (aS 3 aP (aC (eV 6) (aC (eC (.int 0)) (aC (aK (lv qB) (eC (.int 1440)) (eC (.int 1))) (aJ))))) (jj (aS 3 aP (aC (eV 7) (aC (eC (.int 20)) (aC (eC (.int 900)) (aJ))))) (aS 3 aP (aC (eV 9) (aC (eC (.int 1)) (aC (eC (.int 100000)) (aJ))))))))))))
def ic:MF:=bG 8 tU
theorem xE {P:Program} {w:World} {K:PySem.W.Frag} {mg:Str→Option Value} {base:Heap} (G:Gx P w K mg base):FnE P w K mg base 3 (He.ga K "is_leg") ["leg","ahead","names"] ic:=by
  obtain ⟨fd,F⟩:=G.f_is_leg
  have fx:=G.fx
  refine ⟨fd,?_⟩
  refine au (N:=N_is_leg) (st:=xD) (k:=2) F ⟨rfl,rfl,rfl,by decide +kernel,rfl,by decide +kernel,by decide +kernel⟩ rfl (fun _ _ _ _ _ _ us hl=>match us,hl with|[_,_,_],_=>rfl) fun cdv A outer s H E hcd hp hr W tk=>?_
  have nd:N_is_leg.Nodup:=by decide +kernel
  have hu1:=ru1 hr
  have hu64:=cS hr
  have hu65:=cU hr
  exact (aG (bK (bv (cO (bN (ay (ax eg rfl fx.n_isinstance aM (aA (aB 0) (aA (dw rfl fx.n_tuple bS) aD))))) (cK (aa (jf hu64) (ax dH rfl fx.n_len b9 (aA (aB 0) aD)) aE (by with_unfolding_all rfl))))) (aL (aW bA)) aZ)
    (aG (dA (aB 0) (jQ rfl (bM (ai (i:=3) nd rfl (by first|exact .inl rfl|exact .inr rfl)) (bM (ai (i:=4) nd rfl (by first|exact .inl rfl|exact .inr rfl)) (bM (ai (i:=5) nd rfl (by first|exact .inl rfl|exact .inr rfl)) (bM (ai (i:=6) nd rfl (by first|exact .inl rfl|exact .inr rfl)) (bM (ai (i:=7) nd rfl (by first|exact .inl rfl|exact .inr rfl)) (bM (ai (i:=8) nd rfl (by first|exact .inl rfl|exact .inr rfl)) (bM (ai (i:=9) nd rfl (by first|exact .inl rfl|exact .inr rfl)) gy)))))))))
    (aG (bK (bv (cO (bN (ay (aN (ps:=["thing","low","high"]) (m:=aP) (bJ G) (hr.mono (by decide)) fx.d_is_number tk (aA (aB 3) (aA aE (aA (bq fx.i_MOST_NUMBER) aD)))))) (cK (aa (oQ hu65) (aB 3) (cF (own:=[("one",10)]) rfl nd (aw (aB 1)) (blkOk_by (by kernel_rfl)) (fun _ _ _ _ _=>(aq (i:=10) nd rfl (by first|exact .inl rfl|exact .inr rfl) (by decide))) (fun _ _ _ _ _=>cQ) (fun _ _ _ _ _=>(aV hu1 (aB 10) aE))) (by with_unfolding_all rfl))))) (aL (aW bA)) aZ)
    (aG (bK (bv (cO (bN (ay (ax eg rfl fx.n_isinstance aM (aA (aB 4) (aA (dw rfl fx.n_str ug) aD))))) (cO (bN (ay (ax eg rfl fx.n_isinstance aM (aA (aB 5) (aA (dw rfl fx.n_str ug) aD))))) (cK (aa (i9 hu64) (aB 4) (aB 5) (by with_unfolding_all rfl)))))) (aL (aW bA)) aZ)
    (aG (bK (bv (cO (aa (cP hu65) (aB 4) (aB 2) (by with_unfolding_all rfl)) (cO (aa (cP hu65) (aB 5) (aB 2) (by with_unfolding_all rfl)) (cK (bN (ay (aN (ps:=["days"]) (m:=f7) (tR G) (hr.mono (by decide)) fx.d_are_days tk (aA (aB 8) aD)))))))) (aL (aW bA)) aZ)
    (aL (aW (fY (aN (ps:=["thing","low","high"]) (m:=aP) (bJ G) (hr.mono (by decide)) fx.d_is_number tk (aA (aB 6) (aA aE (aA (aQ lR (bq fx.i_DAY) aE) aD)))) (fY (aN (ps:=["thing","low","high"]) (m:=aP) (bJ G) (hr.mono (by decide)) fx.d_is_number tk (aA (aB 7) (aA (bq fx.i_LEAST_LONG) (aA (bq fx.i_MOST_LONG) aD)))) (iQ (aN (ps:=["thing","low","high"]) (m:=aP) (bJ G) (hr.mono (by decide)) fx.d_is_number tk (aA (aB 9) (aA aE (aA (bq fx.i_MOST_FARE) aD))))))))))))))
theorem cX {P:Program} {w:World} {K:PySem.W.Frag} {mg:Str→Option Value} {base:Heap} (G:Gx P w K mg base):∃fd,FnOk P w K mg base C8.CX0 1 (He.ma K (He.ga K "BadNet") "__init__") fd ["self","part","number"] (spI (He.ga K "BadNet") ["part","number"])∧Binds K fd ["self","part","number"] []:=by
  obtain ⟨fd,F⟩:=G.f_BadNet_init__
  have fx:=G.fx
  exact ⟨fd,ya (k:=0) fx.e_BadNet F ⟨rfl,rfl,rfl,by decide +kernel,rfl,by decide +kernel,by decide +kernel⟩ fx.d_AirError rfl rfl (fun _ _=>⟨plainOf _ _,rfl⟩),F.bindsN (fun _ _ _ _ _ _ us hl=>match us,hl with|[_,_,_],_=>rfl)⟩
abbrev vG:Stmt:=(top 41)
abbrev N_is_word:List Str:=["thing","least","most","sign"]
def pV:MS:=aT (sIf (c9 (bW (cB (eB cG (aC (eV 0) (aC (eC (.ty "str")) (aJ)))))) (bW (tOf (jO (lv dLe) (lv dLe) (eV 1) (eB cx (aC (eV 0) (aJ))) (eV 2))))) (bH (eC (.bool false))) (bo))
  (bH (eB kh (aC (b6 (cM (eV 0)) (gV 3) (cD) (aK fIn (eV 3) (eC (.str "abcdefghijklmnopqrstuvwxyz"))) [3]) (aJ))))
def gp:MF:=bG 1 pV
theorem vH {P:Program} {w:World} {K:PySem.W.Frag} {mg:Str→Option Value} {base:Heap} (G:Gx P w K mg base):FnE P w K mg base 1 (He.ga K "is_word") ["thing","least","most"] gp:=by
  obtain ⟨fd,F⟩:=G.f_is_word
  have fx:=G.fx
  refine ⟨fd,?_⟩
  refine au (N:=N_is_word) (st:=vG) (k:=0) F ⟨rfl,rfl,rfl,by decide +kernel,rfl,by decide +kernel,by decide +kernel⟩ rfl (fun _ _ _ _ _ _ us hl=>match us,hl with|[_,_,_],_=>rfl) fun cdv A outer s H E hcd hp hr W tk=>?_
  have nd:N_is_word.Nodup:=by decide +kernel
  have hu1:=ru1 hr
  have hu64:=cS hr
  have hu65:=cU hr
  exact (aG (bK (bv (cO (bN (ay (ax eg rfl fx.n_isinstance aM (aA (aB 0) (aA (dw rfl fx.n_str ug) aD))))) (cK (bN (xg uQ uQ (aB 1) (ax dH rfl fx.n_len b9 (aA (aB 0) aD)) (aB 2)))))) (aL (aW bA)) aZ)
    (aL (aW (ax (rf rfl) rfl fx.n_all nA (aA (cF (own:=[("sign",3)]) rfl nd (aw (aB 0)) (blkOk_by (by kernel_rfl)) (fun _ _ _ _ _=>(aq (i:=3) nd rfl (by first|exact .inl rfl|exact .inr rfl) (by decide))) (fun _ _ _ _ _=>cQ) (fun _ _ _ _ _=>(eD (oQ hu65) (aB 3) (zu fx.s_LETTERS) (by with_unfolding_all rfl)))) aD)))))
abbrev tV:Stmt:=(top 42)
abbrev N_is_place:List Str:=["place","ahead","name","change"]
def nz:MS:=aT (sIf (c9 (bW (cB (eB cG (aC (eV 0) (aC (eC (.ty "tuple")) (aJ)))))) (c9 (tOf (aK (lv dNe) (eB cx (aC (eV 0) (aJ))) (eC (.int 2)))) (bW (cB (aS 3 gp (aC (aK fIx (eV 0) (eC (.int 0))) (aC (eC (.int 3)) (aC (eC (.int 3)) (aJ))))))))) (bH (eC (.bool false))) (bo))
  (bH (jj (aK cj (aK fIx (eV 0) (eC (.int 0))) (b6 (cM (eV 1)) (fO 2 (bI (gV 2) (bI (gV 3) (gL)))) (cD) (eV 2) [2,3])) (aS 3 aP (aC (aK fIx (eV 0) (eC (.int 1))) (aC (eC (.int 10)) (aC (eC (.int 300)) (aJ)))))))
def f8:MF:=bG 2 nz
theorem tW {P:Program} {w:World} {K:PySem.W.Frag} {mg:Str→Option Value} {base:Heap} (G:Gx P w K mg base):FnE P w K mg base 2 (He.ga K "is_place") ["place","ahead"] f8:=by
  obtain ⟨fd,F⟩:=G.f_is_place
  have fx:=G.fx
  refine ⟨fd,?_⟩
  refine au (N:=N_is_place) (st:=tV) (k:=1) F ⟨rfl,rfl,rfl,by decide +kernel,rfl,by decide +kernel,by decide +kernel⟩ rfl (fun _ _ _ _ _ _ us hl=>match us,hl with|[_,_],_=>rfl) fun cdv A outer s H E hcd hp hr W tk=>?_
  have nd:N_is_place.Nodup:=by decide +kernel
  have hu1:=ru1 hr
  have hu64:=cS hr
  have hu65:=cU hr
  exact (aG (bK (bv (cO (bN (ay (ax eg rfl fx.n_isinstance aM (aA (aB 0) (aA (dw rfl fx.n_tuple bS) aD))))) (cO (aa (jf hu64) (ax dH rfl fx.n_len b9 (aA (aB 0) aD)) aE (by with_unfolding_all rfl)) (cK (bN (ay (aN (ps:=["thing","least","most"]) (m:=gp) (vH G) (hr.mono (by decide)) fx.d_is_word tk (aA (aV hu1 (aB 0) aE) (aA (bq fx.i_PLACE_SIZE) (aA (bq fx.i_PLACE_SIZE) aD)))))))))) (aL (aW bA)) aZ)
    (aL (aW (fY (eD (cP hu65) (aV hu1 (aB 0) aE) (cF (own:=[("name",2),("change",3)]) rfl nd (aw (aB 1)) (blkOk_by (by kernel_rfl)) (fun _ _ _ _ _=>(qJ rfl (dg (aq (i:=2) nd rfl (by first|exact .inl rfl|exact .inr rfl) (by decide)) (dg (aq (i:=3) nd rfl (by first|exact .inl rfl|exact .inr rfl) (by decide)) mD)))) (fun _ _ _ _ _=>cQ) (fun _ _ _ _ _=>(aB 2))) (by with_unfolding_all rfl)) (iQ (aN (ps:=["thing","low","high"]) (m:=aP) (bJ G) (hr.mono (by decide)) fx.d_is_number tk (aA (aV hu1 (aB 0) aE) (aA (bq fx.i_LEAST_CHANGE) (aA (bq fx.i_MOST_CHANGE) aD)))))))))
abbrev tX:Stmt:=(top 45)
abbrev N_need_net:List Str:=["net","places","legs","number","place","names","leg","name","change"]
def n4:MS:=aT (sIf (c9 (bW (cB (eB cG (aC (eV 0) (aC (eC (.ty "tuple")) (aJ)))))) (tOf (aK (lv dNe) (eB cx (aC (eV 0) (aJ))) (eC (.int 2))))) (fS "BadNet" ["part","number"] (aC (eNeg (eC (.int 1))) (aC (eC (.int 0)) (aJ)))) (bo))
  (aT (gz (eV 0) (fO 2 (bI (gV 1) (bI (gV 2) (gL)))))
  (aT (sIf (c9 (bW (cB (eB cG (aC (eV 1) (aC (eC (.ty "tuple")) (aJ)))))) (tOf (aK (lv dEq) (eV 1) (cZ (aJ))))) (fS "BadNet" ["part","number"] (aC (eC (.int 0)) (aC (eC (.int 0)) (aJ)))) (bo))
  (aT (fR (me (aC (eV 1) (aJ))) (fO 2 (bI (gV 3) (bI (gV 4) (gL)))) (sIf (c9 (tOf (aK (lv dEq) (eV 3) (eC (.int 12)))) (bW (cB (aS 2 f8 (aC (eV 4) (aC (rK (eV 1) (pNo) (lU (eV 3))) (aJ))))))) (fS "BadNet" ["part","number"] (aC (eC (.int 0)) (aC (eV 3) (aJ)))) (bo)))
  (aT (sIf (bW (cB (eB cG (aC (eV 2) (aC (eC (.ty "tuple")) (aJ)))))) (fS "BadNet" ["part","number"] (aC (eC (.int 1)) (aC (eC (.int 0)) (aJ)))) (bo))
  (aT (bF 5 (b6 (cM (eV 1)) (fO 2 (bI (gV 7) (bI (gV 8) (gL)))) (cD) (eV 7) [7,8]))
  (fR (me (aC (eV 2) (aJ))) (fO 2 (bI (gV 3) (bI (gV 6) (gL)))) (sIf (c9 (tOf (aK (lv dEq) (eV 3) (eC (.int 60)))) (bW (cB (aS 3 ic (aC (eV 6) (aC (rK (eV 2) (pNo) (lU (eV 3))) (aC (eV 5) (aJ)))))))) (fS "BadNet" ["part","number"] (aC (eC (.int 1)) (aC (eV 3) (aJ)))) (bo))))))))
def f9:MF:=bG 8 n4
theorem tY {P:Program} {w:World} {K:PySem.W.Frag} {mg:Str→Option Value} {base:Heap} (G:Gx P w K mg base):FnE P w K mg base 4 (He.ga K "need_net") ["net"] f9:=by
  obtain ⟨fd,F⟩:=G.f_need_net
  have fx:=G.fx
  refine ⟨fd,?_⟩
  refine au (N:=N_need_net) (st:=tX) (k:=3) F ⟨rfl,rfl,rfl,by decide +kernel,rfl,by decide +kernel,by decide +kernel⟩ rfl (fun _ _ _ _ _ _ us hl=>match us,hl with|[_],_=>rfl) fun cdv A outer s H E hcd hp hr W tk=>?_
  have nd:N_need_net.Nodup:=by decide +kernel
  have hu1:=ru1 hr
  have hu64:=cS hr
  have hu65:=cU hr
  exact (aG (bK (bv (cO (bN (ay (ax eg rfl fx.n_isinstance aM (aA (aB 0) (aA (dw rfl fx.n_tuple bS) aD))))) (cK (aa (jf hu64) (ax dH rfl fx.n_len b9 (aA (aB 0) aD)) aE (by with_unfolding_all rfl))))) (aL (gZ (ns:=["part","number"]) rfl tk fx.e_BadNet (cX G) (hr.mono (by decide)) fx.d_BadNet rfl (aA (uR aE) (aA aE aD)))) aZ)
    (aG (dA (aB 0) (jQ rfl (bM (ai (i:=1) nd rfl (by first|exact .inl rfl|exact .inr rfl)) (bM (ai (i:=2) nd rfl (by first|exact .inl rfl|exact .inr rfl)) gy))))
    (aG (bK (bv (cO (bN (ay (ax eg rfl fx.n_isinstance aM (aA (aB 1) (aA (dw rfl fx.n_tuple bS) aD))))) (cK (aa (i9 hu64) (aB 1) (bC aD) (by with_unfolding_all rfl))))) (aL (gZ (ns:=["part","number"]) rfl tk fx.e_BadNet (cX G) (hr.mono (by decide)) fx.d_BadNet rfl (aA aE (aA aE aD)))) aZ)
    (aG (cN hp rfl (vn rfl fx.n_enumerate (aA (aB 1) aD)) (jQ rfl (bM (ai (i:=3) nd rfl (by first|exact .inl rfl|exact .inr rfl)) (bM (ai (i:=4) nd rfl (by first|exact .inl rfl|exact .inr rfl)) gy))) (aL (bK (bv (cO (aa (i9 hu64) (aB 3) (bq fx.i_MOST_PLACES) (by with_unfolding_all rfl)) (cK (bN (ay (aN (ps:=["place","ahead"]) (m:=f8) (tW G) (hr.mono (by decide)) fx.d_is_place tk (aA (aB 4) (aA (mW (aB 1) rL (ji (aB 3))) aD)))))))) (aL (gZ (ns:=["part","number"]) rfl tk fx.e_BadNet (cX G) (hr.mono (by decide)) fx.d_BadNet rfl (aA aE (aA (aB 3) aD)))) aZ)))
    (aG (bK (bN (ay (ax eg rfl fx.n_isinstance aM (aA (aB 2) (aA (dw rfl fx.n_tuple bS) aD))))) (aL (gZ (ns:=["part","number"]) rfl tk fx.e_BadNet (cX G) (hr.mono (by decide)) fx.d_BadNet rfl (aA aE (aA aE aD)))) aZ)
    (aG (mq (own:=[("name",7),("change",8)]) (i:=5) rfl nd rfl rfl rfl (aw (aB 1)) (blkOk_by (by kernel_rfl)) (fun _ _ _ _ _=>(qJ rfl (dg (aq (i:=7) nd rfl (by first|exact .inl rfl|exact .inr rfl) (by decide)) (dg (aq (i:=8) nd rfl (by first|exact .inl rfl|exact .inr rfl) (by decide)) mD)))) (fun _ _ _ _ _=>cQ) (fun _ _ _ _ _=>(aB 7)))
    (aL (cN hp rfl (vn rfl fx.n_enumerate (aA (aB 2) aD)) (jQ rfl (bM (ai (i:=3) nd rfl (by first|exact .inl rfl|exact .inr rfl)) (bM (ai (i:=6) nd rfl (by first|exact .inl rfl|exact .inr rfl)) gy))) (aL (bK (bv (cO (aa (i9 hu64) (aB 3) (bq fx.i_MOST_LEGS) (by with_unfolding_all rfl)) (cK (bN (ay (aN (ps:=["leg","ahead","names"]) (m:=ic) (xE G) (hr.mono (by decide)) fx.d_is_leg tk (aA (aB 6) (aA (mW (aB 2) rL (ji (aB 3))) (aA (aB 5) aD))))))))) (aL (gZ (ns:=["part","number"]) rfl tk fx.e_BadNet (cX G) (hr.mono (by decide)) fx.d_BadNet rfl (aA aE (aA (aB 3) aD)))) aZ))))))))))
abbrev oZ:Stmt:=(inClass (top 46) 0)
abbrev N_Net_init__:List Str:=["self","net","places","legs","leg"]
def kB:MS:=aT (dW (aS 1 f9 (aC (eV 1) (aJ))))
  (aT (gz (eV 1) (fO 2 (bI (gV 2) (bI (gV 3) (gL)))))
  (aT (jn "Net" "changes" (eV 0) (qN (aC (eV 2) (aJ))))
  (jn "Net" "legs" (eV 0) (m7 (cM (eV 3)) (gV 4) (cD) (aK fIx (eV 4) (eC (.int 0))) (eV 4) [4]))))
def ck:MF:=bG 3 kB
theorem jF {P:Program} {w:World} {K:PySem.W.Frag} {mg:Str→Option Value} {base:Heap} (G:Gx P w K mg base):FnE P w K mg base 5 (He.ma K (He.ga K "Net") "__init__") ["self","net"] ck:=by
  obtain ⟨fd,F⟩:=G.f_Net_init__
  have fx:=G.fx
  refine ⟨fd,?_⟩
  refine au (N:=N_Net_init__) (st:=oZ) (k:=4) F ⟨rfl,rfl,rfl,by decide +kernel,rfl,by decide +kernel,by decide +kernel⟩ rfl (fun _ _ _ _ _ _ us hl=>match us,hl with|[_,_],_=>rfl) fun cdv A outer s H E hcd hp hr W tk=>?_
  have nd:N_Net_init__.Nodup:=by decide +kernel
  have hu1:=ru1 hr
  have hu64:=cS hr
  have hu65:=cU hr
  exact (aG (cC (aN (ps:=["net"]) (m:=f9) (tY G) (hr.mono (by decide)) fx.d_need_net tk (aA (aB 1) aD)))
    (aG (dA (aB 1) (jQ rfl (bM (ai (i:=2) nd rfl (by first|exact .inl rfl|exact .inr rfl)) (bM (ai (i:=3) nd rfl (by first|exact .inl rfl|exact .inr rfl)) gy))))
    (aG (kg (xu rfl rfl fx.n_dict zw (aA (aB 2) aD)) (aB 0) fx.d_Net fx.c_Net fx.a_Net_changes)
    (aL (kg (xw (own:=[("leg",4)]) rfl nd (aw (aB 3)) (blkOk_by (by kernel_rfl)) (fun _ _ _ _ _=>(aq (i:=4) nd rfl (by first|exact .inl rfl|exact .inr rfl) (by decide))) (fun _ _ _ _ _=>cQ) (fun _ _ _ _ _=>(aV hu1 (aB 4) aE)) (fun _ _ _ _ _=>(aB 4))) (aB 0) fx.d_Net fx.c_Net fx.a_Net_legs)))))
abbrev xF:Stmt:=(top 54)
abbrev N_fewest:List Str:=["net","turn","first","last","held","matcher","chains"]
def kE:MS:=aT (bF 4 (mt "Net" 2 ck (aC (eV 0) (aJ))))
  (aT (dW (aS 1 cI (aC (eV 1) (aJ))))
  (aT (dW (aS 2 cH (aC (eV 2) (aC (eV 3) (aJ)))))
  (aT (bF 5 (mt "Matcher" 4 cW (aC (eV 4) (aC (eV 1) (aC (dG "Net" "all_rides" 3 bj (eV 4) (aC (eV 2) (aC (eV 3) (aJ)))) (aJ))))))
  (aT (bF 6 (dG "Matcher" "chains" 1 cV (eV 5) aJ))
  (bH (cZ (aC (eB cx (aC (eV 6) (aJ))) (aC (eV 6) (aC (dG "Matcher" "cover" 1 cr (eV 5) aJ) (aJ))))))))))
def bw:MF:=bG 3 kE
theorem lH {P:Program} {w:World} {K:PySem.W.Frag} {mg:Str→Option Value} {base:Heap} (G:Gx P w K mg base):FnE P w K mg base 124 (He.ga K "fewest") ["net","turn","first","last"] bw:=by
  obtain ⟨fd,F⟩:=G.f_fewest
  have fx:=G.fx
  refine ⟨fd,?_⟩
  refine au (N:=N_fewest) (st:=xF) (k:=123) F ⟨rfl,rfl,rfl,by decide +kernel,rfl,by decide +kernel,by decide +kernel⟩ rfl (fun _ _ _ _ _ _ us hl=>match us,hl with|[_,_,_,_],_=>rfl) fun cdv A outer s H E hcd hp hr W tk=>?_
  have nd:N_fewest.Nodup:=by decide +kernel
  have hu1:=ru1 hr
  have hu64:=cS hr
  have hu65:=cU hr
  exact (aG (aj (i:=4) nd rfl (by first|exact .inl rfl|exact .inr rfl) (qP (ps:=["self","net"]) (mi:=ck) fx.d_Net fx.k_Net (jF G) (hr.mono (by decide)) tk (aA (aB 0) aD)))
    (aG (cC (aN (ps:=["turn"]) (m:=cI) (j9 G) (hr.mono (by decide)) fx.d_need_turn tk (aA (aB 1) aD)))
    (aG (cC (aN (ps:=["first","last"]) (m:=cH) (j8 G) (hr.mono (by decide)) fx.d_need_days tk (aA (aB 2) (aA (aB 3) aD))))
    (aG (aj (i:=5) nd rfl (by first|exact .inl rfl|exact .inr rfl) (qP (ps:=["self","held","turn","rides"]) (mi:=cW) fx.d_Matcher fx.k_Matcher (j7 G) (hr.mono (by decide)) tk (aA (aB 4) (aA (aB 1) (aA (dQ (pl:=plainOf _ _) (ps:=["self","first","last"]) (m:=bj) (aB 4) fx.d_Net fx.c_Net fx.m_Net_all_rides (gj G) (hr.mono (by decide)) tk (aA (aB 2) (aA (aB 3) aD))) aD)))))
    (aG (aj (i:=6) nd rfl (by first|exact .inl rfl|exact .inr rfl) (rq (pl:=plainOf _ _) (ps:=["self"]) (m:=cV) (aB 5) fx.d_Matcher fx.c_Matcher fx.m_Matcher_chains (j3 G) (hr.mono (by decide)) tk))
    (aL (aW (bC (aA (ax dH rfl fx.n_len b9 (aA (aB 6) aD)) (aA (aB 6) (aA (rq (pl:=plainOf _ _) (ps:=["self"]) (m:=cr) (aB 5) fx.d_Matcher fx.c_Matcher fx.m_Matcher_cover (lG G) (hr.mono (by decide)) tk) aD)))))))))))
abbrev xG:Stmt:=(top 55)
abbrev N_is_end:List Str:=["end","rides","part"]
def dj:MS:=aT (sIf (c9 (bW (cB (eB cG (aC (eV 0) (aC (eC (.ty "tuple")) (aJ)))))) (c9 (tOf (aK (lv dNe) (eB cx (aC (eV 0) (aJ))) (eC (.int 2)))) (c9 (bW (cB (aS 3 aP (aC (aK fIx (eV 0) (eC (.int 0))) (aC (eC (.int 0)) (aC (eC (.int 1)) (aJ))))))) (bW (cB (eB cG (aC (aK fIx (eV 0) (eC (.int 1))) (aC (eC (.ty "tuple")) (aJ))))))))) (bH (eC (.bool false))) (bo))
  (bH (jj (aK fIn (aK fIx (eV 0) (eC (.int 1))) (eV 1)) (eB kh (aC (b6 (cM (aK fIx (eV 0) (eC (.int 1)))) (gV 2) (cD) (aS 3 aP (aC (eV 2) (aC (eC (.int 0)) (aC (eV 2) (aJ))))) [2]) (aJ)))))
def ie:MF:=bG 1 dj
theorem xH {P:Program} {w:World} {K:PySem.W.Frag} {mg:Str→Option Value} {base:Heap} (G:Gx P w K mg base):FnE P w K mg base 2 (He.ga K "is_end") ["end","rides"] ie:=by
  obtain ⟨fd,F⟩:=G.f_is_end
  have fx:=G.fx
  refine ⟨fd,?_⟩
  refine au (N:=N_is_end) (st:=xG) (k:=1) F ⟨rfl,rfl,rfl,by decide +kernel,rfl,by decide +kernel,by decide +kernel⟩ rfl (fun _ _ _ _ _ _ us hl=>match us,hl with|[_,_],_=>rfl) fun cdv A outer s H E hcd hp hr W tk=>?_
  have nd:N_is_end.Nodup:=by decide +kernel
  have hu1:=ru1 hr
  have hu64:=cS hr
  have hu65:=cU hr
  exact (aG (bK (bv (cO (bN (ay (ax eg rfl fx.n_isinstance aM (aA (aB 0) (aA (dw rfl fx.n_tuple bS) aD))))) (cO (aa (jf hu64) (ax dH rfl fx.n_len b9 (aA (aB 0) aD)) aE (by with_unfolding_all rfl)) (cO (bN (ay (aN (ps:=["thing","low","high"]) (m:=aP) (bJ G) (hr.mono (by decide)) fx.d_is_number tk (aA (aV hu1 (aB 0) aE) (aA aE (aA aE aD)))))) (cK (bN (ay (ax eg rfl fx.n_isinstance aM (aA (aV hu1 (aB 0) aE) (aA (dw rfl fx.n_tuple bS) aD)))))))))) (aL (aW bA)) aZ)
    (aL (aW (fY (eD (oQ hu65) (aV hu1 (aB 0) aE) (aB 1) (by with_unfolding_all rfl)) (iQ (ax (rf rfl) rfl fx.n_all nA (aA (cF (own:=[("part",2)]) rfl nd (aw (aV hu1 (aB 0) aE)) (blkOk_by (by kernel_rfl)) (fun _ _ _ _ _=>(aq (i:=2) nd rfl (by first|exact .inl rfl|exact .inr rfl) (by decide))) (fun _ _ _ _ _=>cQ) (fun _ _ _ _ _=>(aN (ps:=["thing","low","high"]) (m:=aP) (bJ G) (hr.mono (by decide)) fx.d_is_number takes0 (aA (aB 2) (aA aE (aA (aB 2) aD)))))) aD)))))))
abbrev l5:Stmt:=(top 56)
abbrev N_shown_planes:List Str:=["net","turn","first","last","cover","held","rides","one","other","end"]
def dk:MS:=aT (bF 5 (mt "Net" 2 ck (aC (eV 0) (aJ))))
  (aT (dW (aS 1 cI (aC (eV 1) (aJ))))
  (aT (dW (aS 2 cH (aC (eV 2) (aC (eV 3) (aJ)))))
  (aT (bF 6 (dG "Net" "all_rides" 3 bj (eV 5) (aC (eV 2) (aC (eV 3) (aJ)))))
  (aT (sIf (c9 (bW (cB (eB cG (aC (eV 4) (aC (eC (.ty "tuple")) (aJ)))))) (bW (cB (eB kh (aC (b6 (cM (eV 4)) (gV 9) (cD) (aS 2 ie (aC (eV 9) (aC (eV 6) (aJ)))) [9]) (aJ)))))) (bH (eC .none)) (bo))
  (aT (sIf (tOf (aK (lv dLt) (jz true (eV 4)) (eB cx (aC (eV 4) (aJ))))) (bH (eC .none)) (bo))
  (aT (fR (cM (eV 6)) (gV 7) (fR (cM (eV 6)) (gV 8) (sIf (mX (cB (aS 4 br (aC (eV 5) (aC (eV 1) (aC (eV 7) (aC (eV 8) (aJ))))))) (mX (tOf (aK cj (cZ (aC (eC (.int 0)) (aC (eV 7) (aJ)))) (eV 4))) (tOf (aK cj (cZ (aC (eC (.int 1)) (aC (eV 8) (aJ)))) (eV 4))))) (bH (eC .none)) (bo))))
  (bH (aK (lv qB) (eB cx (aC (eV 6) (aJ))) (eB cx (aC (eV 4) (aJ)))))))))))
def ak:MF:=bG 5 dk
theorem fN {P:Program} {w:World} {K:PySem.W.Frag} {mg:Str→Option Value} {base:Heap} (G:Gx P w K mg base):FnE P w K mg base 7 (He.ga K "shown_planes") ["net","turn","first","last","cover"] ak:=by
  obtain ⟨fd,F⟩:=G.f_shown_planes
  have fx:=G.fx
  refine ⟨fd,?_⟩
  refine au (N:=N_shown_planes) (st:=l5) (k:=6) F ⟨rfl,rfl,rfl,by decide +kernel,rfl,by decide +kernel,by decide +kernel⟩ rfl (fun _ _ _ _ _ _ us hl=>match us,hl with|[_,_,_,_,_],_=>rfl) fun cdv A outer s H E hcd hp hr W tk=>?_
  have nd:N_shown_planes.Nodup:=by decide +kernel
  have hu1:=ru1 hr
  have hu64:=cS hr
  have hu65:=cU hr
  exact (aG (aj (i:=5) nd rfl (by first|exact .inl rfl|exact .inr rfl) (qP (ps:=["self","net"]) (mi:=ck) fx.d_Net fx.k_Net (jF G) (hr.mono (by decide)) tk (aA (aB 0) aD)))
    (aG (cC (aN (ps:=["turn"]) (m:=cI) (j9 G) (hr.mono (by decide)) fx.d_need_turn tk (aA (aB 1) aD)))
    (aG (cC (aN (ps:=["first","last"]) (m:=cH) (j8 G) (hr.mono (by decide)) fx.d_need_days tk (aA (aB 2) (aA (aB 3) aD))))
    (aG (aj (i:=6) nd rfl (by first|exact .inl rfl|exact .inr rfl) (dQ (pl:=plainOf _ _) (ps:=["self","first","last"]) (m:=bj) (aB 5) fx.d_Net fx.c_Net fx.m_Net_all_rides (gj G) (hr.mono (by decide)) tk (aA (aB 2) (aA (aB 3) aD))))
    (aG (bK (bv (cO (bN (ay (ax eg rfl fx.n_isinstance aM (aA (aB 4) (aA (dw rfl fx.n_tuple bS) aD))))) (cK (bN (ay (ax (rf rfl) rfl fx.n_all nA (aA (cF (own:=[("end",9)]) rfl nd (aw (aB 4)) (blkOk_by (by kernel_rfl)) (fun _ _ _ _ _=>(aq (i:=9) nd rfl (by first|exact .inl rfl|exact .inr rfl) (by decide))) (fun _ _ _ _ _=>cQ) (fun _ _ _ _ _=>(aN (ps:=["end","rides"]) (m:=ie) (xH G) (hr.mono (by decide)) fx.d_is_end takes0 (aA (aB 9) (aA (aB 6) aD))))) aD))))))) (aL (aW l9)) aZ)
    (aG (bK (aa o_lt (vD true hu65 rfl rfl fx.n_len rfl fx.n_set (aB 4)) (ax dH rfl fx.n_len b9 (aA (aB 4) aD)) (by with_unfolding_all rfl)) (aL (aW l9)) aZ)
    (aG (cN hp rfl (aw (aB 6)) (ai (i:=7) nd rfl (by first|exact .inl rfl|exact .inr rfl)) (aL (cN hp rfl (aw (aB 6)) (ai (i:=8) nd rfl (by first|exact .inl rfl|exact .inr rfl)) (aL (bK (bv (qE (ay (aN (ps:=["held","turn","one","other"]) (m:=br) (jE G) (hr.mono (by decide)) fx.d_can_follow tk (aA (aB 5) (aA (aB 1) (aA (aB 7) (aA (aB 8) aD)))))) (qE (aa (cP hu65) (bC (aA aE (aA (aB 7) aD))) (aB 4) (by with_unfolding_all rfl)) (vi (aa (cP hu65) (bC (aA aE (aA (aB 8) aD))) (aB 4) (by with_unfolding_all rfl)))))) (aL (aW l9)) aZ)))))
    (aL (aW (aQ lR (ax dH rfl fx.n_len b9 (aA (aB 6) aD)) (ax dH rfl fx.n_len b9 (aA (aB 4) aD))))))))))))
abbrev ig:Stmt:=(top 61)
abbrev N_law_kind:List Str:=["_law_work","e","_law_kinds","_law_words","_law_word"]
def n6 (C:Str) (ea:Addr) (dd:Option Addr) (kt:D→Option Bool):MS:=aT (bF 2 (dF (aC (eB (dJ ea dd kt) (aC (eV 1) (aC (eC (.glo "BadNet")) (aJ)))) (aC (eB (dJ ea dd kt) (aC (eV 1) (aC (eC (.glo "BadFleet")) (aJ)))) (aC (eB (dJ ea dd kt) (aC (eV 1) (aC (eC (.glo "BadClasses")) (aJ)))) (aC (eB (dJ ea dd kt) (aC (eV 1) (aC (eC (.glo "BadDay")) (aJ)))) (aJ)))))))
  (aT (bF 2 (aK (lv0 bL) (eV 2) (dF (aC (eB (dJ ea dd kt) (aC (eV 1) (aC (eC (.glo "BadPlace")) (aJ)))) (aC (eB (dJ ea dd kt) (aC (eV 1) (aC (eC (.glo "BadTime")) (aJ)))) (aC (eB (dJ ea dd kt) (aC (eV 1) (aC (eC (.glo "BadCount")) (aJ)))) (aJ)))))))
  (aT (bF 2 (aK (lv0 bL) (eV 2) (dF (aC (eB (dJ ea dd kt) (aC (eV 1) (aC (eC (.glo "BadChain")) (aJ)))) (aC (eB (dJ ea dd kt) (aC (eV 1) (aC (eC (.glo "NoDuty")) (aJ)))) (aC (eB (dJ ea dd kt) (aC (eV 1) (aC (eC (.glo "NoLeg")) (aJ)))) (aC (eB (dJ ea dd kt) (aC (eV 1) (aC (eC (.glo "NoPlane")) (aJ)))) (aJ))))))))
  (aT (bF 2 (aK (lv0 bL) (eV 2) (dF (aC (eB (dJ ea dd kt) (aC (eV 1) (aC (eC (.glo "NoKind")) (aJ)))) (aC (eB (dJ ea dd kt) (aC (eV 1) (aC (eC (.glo "Taken")) (aJ)))) (aC (eB (dJ ea dd kt) (aC (eV 1) (aC (eC (.glo "CannotFly")) (aJ)))) (aC (eB (dJ ea dd kt) (aC (eV 1) (aC (eC (.glo "NoWay")) (aJ)))) (aJ))))))))
  (aT (bF 2 (aK (lv0 bL) (eV 2) (dF (aC (eB (dJ ea dd kt) (aC (eV 1) (aC (eC (.glo "NoSeat")) (aJ)))) (aC (eB (dJ ea dd kt) (aC (eV 1) (aC (eC (.glo "NoClass")) (aJ)))) (aC (eB (dJ ea dd kt) (aC (eV 1) (aC (eC (.glo "BadName")) (aJ)))) (aJ)))))))
  (aT (bF 2 (aK (lv0 bL) (eV 2) (dF (aC (eB (dJ ea dd kt) (aC (eV 1) (aC (eC (.glo "NoBooking")) (aJ)))) (aC (eB (dJ ea dd kt) (aC (eV 1) (aC (eC (.glo "Left")) (aJ)))) (aC (eB (dJ ea dd kt) (aC (eV 1) (aC (eC (.glo "Unmended")) (aJ)))) (aJ)))))))
  (aT (bF 2 (aK (lv0 bL) (eV 2) (dF (aC (eB (dJ ea dd kt) (aC (eV 1) (aC (eC (.glo "BadDeed")) (aJ)))) (aC (eB (dJ ea dd kt) (aC (eV 1) (aC (eC (.glo "BadText")) (aJ)))) (aJ))))))
  (aT (bF 3 (eC (.str "BadNet BadFleet BadClasses BadDay BadPlace BadTime BadCount BadChain NoDuty NoLeg NoPlane")))
  (aT (bF 3 (aK (lv0 bL) (eV 3) (eC (.str " NoKind Taken CannotFly NoWay NoSeat NoClass BadName NoBooking Left Unmended"))))
  (aT (bF 3 (aK (lv0 bL) (eV 3) (eC (.str " BadDeed BadText"))))
  (aT (sIf (c9 (tOf (aK (lv dNe) (eM bX ub (eV 2) (aC (eC (.bool true)) (aJ))) (eC (.int 1)))) (bW (cB (eB (dJ ea dd kt) (aC (eV 1) (aC (eC (.ty "ValueError")) (aJ))))))) (bH (eC (.str "other"))) (bo))
  (aT (bF 4 (aK fIx (eM uY ue (eV 3) (aC (eC (.str " ")) (aJ))) (eM bX uc (eV 2) (aC (eC (.bool true)) (aJ)))))
  (aT (sIf (tOf (aK fIn (eV 4) (cZ (aC (eC (.str "BadNet")) (aC (eC (.str "BadFleet")) (aJ)))))) (bH (cZ (aC (eV 4) (aC (eXf ea dd ((fF C).contains "part") "part" (eV 1)) (aC (eXf ea dd ((fF C).contains "number") "number" (eV 1)) (aJ)))))) (bo))
  (aT (sIf (tOf (aK fIn (eV 4) (cZ (aC (eC (.str "BadClasses")) (aC (eC (.str "BadDeed")) (aJ)))))) (bH (cZ (aC (eV 4) (aC (eXf ea dd ((fF C).contains "number") "number" (eV 1)) (aJ))))) (bo))
  (bH (eIf (tOf (aK (lv dEq) (eV 4) (eC (.str "BadText")))) (cZ (aC (eV 4) (aC (eXf ea dd ((fF C).contains "row") "row" (eV 1)) (aJ)))) (eV 4))))))))))))))))
abbrev hdK:Hdr:=hdOf kindsHere
theorem qh {C:Str} {fs:List (Str × D)} {r:D} (h:hdK C fs=some r):C∈kindsHere∧fs.map (·.1)=fF C∧r=if fs=[] then .str C else .tup (.str C::(fs.map (·.2)).reverse):=by
  unfold hdK hdOf at h
  split at h
  · rename_i hc
    cases h
    exact ⟨List.contains_iff_mem.mp hc.1,hc.2,rfl⟩
  · cases h
theorem zC:∀C∈kindsHere,∀(fs:List (Str × D)) (ea:Addr) (dd:Option Addr) (S:Sto),fs.map (·.1)=fF C→DdK fs dd→n6 C ea dd (ktK C) ((List.replicate 5 none).set 1 (some (exD ea fs dd))) S=.ret (if fs=[] then .str C else .tup (.str C::(fs.map (·.2)).reverse)) S:=by
  intro C hC fs ea dd S hf hd
  unfold kindsHere at hC
  simp only[List.mem_cons,List.not_mem_nil,or_false] at hC
  rcases hC with rfl|rfl|rfl
  ·
    obtain ⟨rfl,rfl⟩:=v6 (hf.trans (by decide +kernel)) hd
    unfold n6
    refine ac (qR (ae rfl (by decide +kernel) (ae rfl (by decide +kernel) (ae rfl (by decide +kernel) (ae rfl (by decide +kernel) rfl)))) (by simp)) ?_
    refine ac (b5 rfl (ae rfl (by decide +kernel) (ae rfl (by decide +kernel) (ae rfl (by decide +kernel) rfl))) (by simp) (by simp)) ?_
    refine ac (b5 rfl (ae rfl (by decide +kernel) (ae rfl (by decide +kernel) (ae rfl (by decide +kernel) (ae rfl (by decide +kernel) rfl)))) (by simp) (by simp)) ?_
    refine ac (b5 rfl (ae rfl (by decide +kernel) (ae rfl (by decide +kernel) (ae rfl (by decide +kernel) (ae rfl (by decide +kernel) rfl)))) (by simp) (by simp)) ?_
    refine ac (b5 rfl (ae rfl (by decide +kernel) (ae rfl (by decide +kernel) (ae rfl (by decide +kernel) rfl))) (by simp) (by simp)) ?_
    refine ac (b5 rfl (ae rfl (by decide +kernel) (ae rfl (by decide +kernel) (ae rfl (by decide +kernel) rfl))) (by simp) (by simp)) ?_
    refine ac (b5 rfl (ae rfl (by decide +kernel) (ae rfl (by decide +kernel) rfl)) (by simp) (by simp)) ?_
    refine ac yH ?_
    refine ac (iu rfl (by decide +kernel)) ?_
    refine ac (iu rfl (by decide +kernel)) ?_
    refine ac (yJ (ui (by kernel_rfl) (nB rfl rfl))) ?_
    kernel_rfl
  ·
    obtain ⟨rfl,rfl⟩:=v6 (hf.trans (by decide +kernel)) hd
    unfold n6
    refine ac (qR (ae rfl (by decide +kernel) (ae rfl (by decide +kernel) (ae rfl (by decide +kernel) (ae rfl (by decide +kernel) rfl)))) (by simp)) ?_
    refine ac (b5 rfl (ae rfl (by decide +kernel) (ae rfl (by decide +kernel) (ae rfl (by decide +kernel) rfl))) (by simp) (by simp)) ?_
    refine ac (b5 rfl (ae rfl (by decide +kernel) (ae rfl (by decide +kernel) (ae rfl (by decide +kernel) (ae rfl (by decide +kernel) rfl)))) (by simp) (by simp)) ?_
    refine ac (b5 rfl (ae rfl (by decide +kernel) (ae rfl (by decide +kernel) (ae rfl (by decide +kernel) (ae rfl (by decide +kernel) rfl)))) (by simp) (by simp)) ?_
    refine ac (b5 rfl (ae rfl (by decide +kernel) (ae rfl (by decide +kernel) (ae rfl (by decide +kernel) rfl))) (by simp) (by simp)) ?_
    refine ac (b5 rfl (ae rfl (by decide +kernel) (ae rfl (by decide +kernel) (ae rfl (by decide +kernel) rfl))) (by simp) (by simp)) ?_
    refine ac (b5 rfl (ae rfl (by decide +kernel) (ae rfl (by decide +kernel) rfl)) (by simp) (by simp)) ?_
    refine ac yH ?_
    refine ac (iu rfl (by decide +kernel)) ?_
    refine ac (iu rfl (by decide +kernel)) ?_
    refine ac (yJ (ui (by kernel_rfl) (nB rfl rfl))) ?_
    kernel_rfl
  ·
    obtain ⟨x,y,d,rfl,rfl⟩:=ex_two (hf.trans (show fF "BadNet"=(["number","part"]:List Str) by decide +kernel)) hd
    unfold n6
    refine ac (qR (ae rfl (by decide +kernel) (ae rfl (by decide +kernel) (ae rfl (by decide +kernel) (ae rfl (by decide +kernel) rfl)))) (by simp)) ?_
    refine ac (b5 rfl (ae rfl (by decide +kernel) (ae rfl (by decide +kernel) (ae rfl (by decide +kernel) rfl))) (by simp) (by simp)) ?_
    refine ac (b5 rfl (ae rfl (by decide +kernel) (ae rfl (by decide +kernel) (ae rfl (by decide +kernel) (ae rfl (by decide +kernel) rfl)))) (by simp) (by simp)) ?_
    refine ac (b5 rfl (ae rfl (by decide +kernel) (ae rfl (by decide +kernel) (ae rfl (by decide +kernel) (ae rfl (by decide +kernel) rfl)))) (by simp) (by simp)) ?_
    refine ac (b5 rfl (ae rfl (by decide +kernel) (ae rfl (by decide +kernel) (ae rfl (by decide +kernel) rfl))) (by simp) (by simp)) ?_
    refine ac (b5 rfl (ae rfl (by decide +kernel) (ae rfl (by decide +kernel) (ae rfl (by decide +kernel) rfl))) (by simp) (by simp)) ?_
    refine ac (b5 rfl (ae rfl (by decide +kernel) (ae rfl (by decide +kernel) rfl)) (by simp) (by simp)) ?_
    refine ac yH ?_
    refine ac (iu rfl (by decide +kernel)) ?_
    refine ac (iu rfl (by decide +kernel)) ?_
    refine ac (yJ (ui (by kernel_rfl) (nB rfl rfl))) ?_
    refine ac (set_ok (d:=.str "BadNet") (by kernel_rfl)) ?_
    exact (zz (x:=y) (y:=x) (by kernel_rfl) rfl rfl rfl rfl (by decide +kernel) (by decide +kernel)).trans (by simp)
theorem Ae {P:Program} {w:World} {K:PySem.W.Frag} {mg:Str→Option Value} {base:Heap} (G:Gx P w K mg base):KindF P w K mg base 130 "_law_kind" (He.ga K "_law_kind") hdK:=by
  obtain ⟨fd,F⟩:=G.f_law_kind
  have fx:=G.fx
  have nd:N_law_kind.Nodup:=by decide +kernel
  have b:=F.bindsN (ps:=["_law_work"]) (fun _ _ _ _ _ _ us hl=>match us,hl with|[_],_=>rfl)
  have kp:=F.kp
  obtain ⟨oc,od,dV,kV,doc,pm,an,cdv,ct,osl,rfl,lk,hcd,hD,_⟩:=F.ex
  refine ⟨⟨defArgs ig,defBody ig,defScope ig,dV,kV,doc,pm,cdv,ct,oc,an,od,osl,N_law_kind,"_law_work",lk,hcd,b,⟨rfl,rfl,rfl,nd,rfl,by decide +kernel,by decide +kernel⟩,rfl,.inl rfl,by decide,by decide,fun X hP hw hK hmg hb hr q=>?_⟩,kp⟩
  subst hP hw hK hmg hb
  refine uf (e:="e") (i:=1) (ec:="AirError") (CS:=He.ga X.K "AirError") (sm:=fun C ea dd=>n6 C ea dd (ktK C)) nd rfl rfl rfl G.kx.air (by decide) (fun _=>rfl) (fun C fs r hC Da hDa=>?_) (fun s H ea Da oe pn C fs dd r m1 m4 hdk hz hf=>?_) (fun C fs ea dd S r hC hdk=>?_)
  · have hm:=(qh hC).1
    rw[G.kx.gl C (G.kx.sub C hm)] at hDa
    cases hDa
    exact G.kx.exm C hm
  · have hm:=(qh m4).1
    rw[G.kx.gl C (G.kx.sub C hm)] at m1
    cases m1
    have hC:=G.kx.exc C hm
    have hk:=hk_of G.kx hm
    have hun:=hr.un
    have hu1:X.A.units+3+1<cLine:=by omega
    have hu64:X.A.units+3+64<cLine:=by omega
    have hu65:X.A.units+3+65<cLine:=by omega
    exact (aG (aj (i:=2) nd rfl (by first|exact .inl rfl|exact .inr rfl) (bn (aA (ax (cy hC hz hf hk) rfl fx.n_isinstance aM (aA (aB 1) (aA (bu rfl fx.d_BadNet) aD))) (aA (ax (cy hC hz hf hk) rfl fx.n_isinstance aM (aA (aB 1) (aA (bu rfl fx.d_BadFleet) aD))) (aA (ax (cy hC hz hf hk) rfl fx.n_isinstance aM (aA (aB 1) (aA (bu rfl fx.d_BadClasses) aD))) (aA (ax (cy hC hz hf hk) rfl fx.n_isinstance aM (aA (aB 1) (aA (bu rfl fx.d_BadDay) aD))) aD))))))
    (aG (aj (i:=2) nd rfl (by first|exact .inl rfl|exact .inr rfl) (aQ ar (aB 2) (bn (aA (ax (cy hC hz hf hk) rfl fx.n_isinstance aM (aA (aB 1) (aA (bu rfl fx.d_BadPlace) aD))) (aA (ax (cy hC hz hf hk) rfl fx.n_isinstance aM (aA (aB 1) (aA (bu rfl fx.d_BadTime) aD))) (aA (ax (cy hC hz hf hk) rfl fx.n_isinstance aM (aA (aB 1) (aA (bu rfl fx.d_BadCount) aD))) aD))))))
    (aG (aj (i:=2) nd rfl (by first|exact .inl rfl|exact .inr rfl) (aQ ar (aB 2) (bn (aA (ax (cy hC hz hf hk) rfl fx.n_isinstance aM (aA (aB 1) (aA (bu rfl fx.d_BadChain) aD))) (aA (ax (cy hC hz hf hk) rfl fx.n_isinstance aM (aA (aB 1) (aA (bu rfl fx.d_NoDuty) aD))) (aA (ax (cy hC hz hf hk) rfl fx.n_isinstance aM (aA (aB 1) (aA (bu rfl fx.d_NoLeg) aD))) (aA (ax (cy hC hz hf hk) rfl fx.n_isinstance aM (aA (aB 1) (aA (bu rfl fx.d_NoPlane) aD))) aD)))))))
    (aG (aj (i:=2) nd rfl (by first|exact .inl rfl|exact .inr rfl) (aQ ar (aB 2) (bn (aA (ax (cy hC hz hf hk) rfl fx.n_isinstance aM (aA (aB 1) (aA (bu rfl fx.d_NoKind) aD))) (aA (ax (cy hC hz hf hk) rfl fx.n_isinstance aM (aA (aB 1) (aA (bu rfl fx.d_Taken) aD))) (aA (ax (cy hC hz hf hk) rfl fx.n_isinstance aM (aA (aB 1) (aA (bu rfl fx.d_CannotFly) aD))) (aA (ax (cy hC hz hf hk) rfl fx.n_isinstance aM (aA (aB 1) (aA (bu rfl fx.d_NoWay) aD))) aD)))))))
    (aG (aj (i:=2) nd rfl (by first|exact .inl rfl|exact .inr rfl) (aQ ar (aB 2) (bn (aA (ax (cy hC hz hf hk) rfl fx.n_isinstance aM (aA (aB 1) (aA (bu rfl fx.d_NoSeat) aD))) (aA (ax (cy hC hz hf hk) rfl fx.n_isinstance aM (aA (aB 1) (aA (bu rfl fx.d_NoClass) aD))) (aA (ax (cy hC hz hf hk) rfl fx.n_isinstance aM (aA (aB 1) (aA (bu rfl fx.d_BadName) aD))) aD))))))
    (aG (aj (i:=2) nd rfl (by first|exact .inl rfl|exact .inr rfl) (aQ ar (aB 2) (bn (aA (ax (cy hC hz hf hk) rfl fx.n_isinstance aM (aA (aB 1) (aA (bu rfl fx.d_NoBooking) aD))) (aA (ax (cy hC hz hf hk) rfl fx.n_isinstance aM (aA (aB 1) (aA (bu rfl fx.d_Left) aD))) (aA (ax (cy hC hz hf hk) rfl fx.n_isinstance aM (aA (aB 1) (aA (bu rfl fx.d_Unmended) aD))) aD))))))
    (aG (aj (i:=2) nd rfl (by first|exact .inl rfl|exact .inr rfl) (aQ ar (aB 2) (bn (aA (ax (cy hC hz hf hk) rfl fx.n_isinstance aM (aA (aB 1) (aA (bu rfl fx.d_BadDeed) aD))) (aA (ax (cy hC hz hf hk) rfl fx.n_isinstance aM (aA (aB 1) (aA (bu rfl fx.d_BadText) aD))) aD)))))
    (aG (aj (i:=3) nd rfl (by first|exact .inl rfl|exact .inr rfl) b8)
    (aG (aj (i:=3) nd rfl (by first|exact .inl rfl|exact .inr rfl) (aQ ar (aB 3) b8))
    (aG (aj (i:=3) nd rfl (by first|exact .inl rfl|exact .inr rfl) (aQ ar (aB 3) b8))
    (aG (bK (bv (cO (aa (jf hu64) (ki eE PySem.F.plainAttrs_list PySem.F.slot_list_count PySem.F.type_list_count zq (aB 2) (aA bA aD)) aE (by with_unfolding_all rfl)) (cK (bN (ay (ax (cy hC hz hf hk) rfl fx.n_isinstance aM (aA (aB 1) (aA (dw rfl fx.n_ValueError oU) aD)))))))) (aL (aW b8)) aZ)
    (aG (aj (i:=4) nd rfl (by first|exact .inl rfl|exact .inr rfl) (aV hu1 (ki ty_str PySem.F.plainAttrs_str PySem.F.slot_str_split PySem.F.type_str_split zt (aB 3) (aA b8 aD)) (ki eE PySem.F.plainAttrs_list PySem.F.slot_list_index PySem.F.type_list_index zr (aB 2) (aA bA aD))))
    (aG (bK (aa (oQ hu65) (aB 4) (bC (aA b8 (aA b8 aD))) (by with_unfolding_all rfl)) (aL (aW (bC (aA (aB 4) (aA (vz (fun h=>⟨⟨hC.hg,hC.hk,hC.hs,hC.hd⟩,G.kx.fld C hm _ (List.contains_iff_mem.mp h)⟩) hz hf (aB 1)) (aA (vz (fun h=>⟨⟨hC.hg,hC.hk,hC.hs,hC.hd⟩,G.kx.fld C hm _ (List.contains_iff_mem.mp h)⟩) hz hf (aB 1)) aD)))))) aZ)
    (aG (bK (aa (oQ hu65) (aB 4) (bC (aA b8 (aA b8 aD))) (by with_unfolding_all rfl)) (aL (aW (bC (aA (aB 4) (aA (vz (fun h=>⟨⟨hC.hg,hC.hk,hC.hs,hC.hd⟩,G.kx.fld C hm _ (List.contains_iff_mem.mp h)⟩) hz hf (aB 1)) aD))))) aZ)
    (aL (aW (vj (aa (i9 hu64) (aB 4) b8 (by with_unfolding_all rfl)) (bC (aA (aB 4) (aA (vz (fun h=>⟨⟨hC.hg,hC.hk,hC.hs,hC.hd⟩,G.kx.fld C hm _ (List.contains_iff_mem.mp h)⟩) hz hf (aB 1)) aD))) (aB 4))))))))))))))))))
  · obtain ⟨hm,hfs,rfl⟩:=qh hC
    exact zC C hm fs ea dd S hfs hdk
abbrev qi:Stmt:=(top 59)
abbrev N_law_drawn:List Str:=["_law_state","_law_many_here","_law_found","_law_cell"]
def fA:MS:=aT (sIf (tOf (aK (lv dGt) (aK fIx (eV 0) (eC (.int 3))) (eC (.int 0)))) (aT (bF 2 (aK (lv lz) (aK fIx (eV 0) (eC (.int 3))) (eV 1)))
  (aT (gz (aK (lv dDiv) (aK fIx (eV 0) (eC (.int 3))) (eV 1)) (gQ (eV 0) (eC (.int 3))))
  (bH (eV 2)))) (bo))
  (aT (gz (aK (lv0 bL) (aK fIx (eV 0) (eC (.int 1))) (eC (.int 1))) (gQ (eV 0) (eC (.int 1))))
  (aT (sIf (tOf (aK (lv dLe) (aK fIx (eV 0) (eC (.int 1))) (eB cx (aC (aK fIx (eV 0) (eC (.int 0))) (aJ))))) (aT (bF 3 (aK fIx (aK fIx (eV 0) (eC (.int 0))) (aK (lv qB) (aK fIx (eV 0) (eC (.int 1))) (eC (.int 1)))))
  (aT (gz (eIf (tOf (aK (lv dGe) (eV 3) (aK (lv dPow) (eC (.int 10)) (eC (.int 18))))) (aK (lv dDiv) (eV 3) (eV 1)) (eC (.int 0))) (gQ (eV 0) (eC (.int 3))))
  (bH (aK (lv lz) (eV 3) (eV 1))))) (bo))
  (aT (gz (aK (lv lz) (aK (lv0 bL) (aK (lv dY) (aK fIx (eV 0) (eC (.int 2))) (eC (.int 48271))) (eC (.int 11))) (eC (.int 2147483647))) (gQ (eV 0) (eC (.int 2))))
  (bH (aK (lv lz) (aK (lv dDiv) (aK fIx (eV 0) (eC (.int 2))) (eC (.int 7))) (eV 1))))))
def aH:MF:=bG 2 fA
theorem aR {P:Program} {w:World} {K:PySem.W.Frag} {mg:Str→Option Value} {base:Heap} (G:Gx P w K mg base):FnE P w K mg base 1 (He.ga K "_law_drawn") ["_law_state","_law_many_here"] aH:=by
  obtain ⟨fd,F⟩:=G.f_law_drawn
  have fx:=G.fx
  refine ⟨fd,?_⟩
  refine au (N:=N_law_drawn) (st:=qi) (k:=0) F ⟨rfl,rfl,rfl,by decide +kernel,rfl,by decide +kernel,by decide +kernel⟩ rfl (fun _ _ _ _ _ _ us hl=>match us,hl with|[_,_],_=>rfl) fun cdv A outer s H E hcd hp hr W tk=>?_
  have nd:N_law_drawn.Nodup:=by decide +kernel
  have hu1:=ru1 hr
  have hu64:=cS hr
  have hu65:=cU hr
  exact (aG (bK (aa o_gt (aV hu1 (aB 0) aE) aE (by with_unfolding_all rfl)) (aG (aj (i:=2) nd rfl (by first|exact .inl rfl|exact .inr rfl) (aQ iN (aV hu1 (aB 0) aE) (aB 1)))
    (aG (dA (aQ ve (aV hu1 (aB 0) aE) (aB 1)) (fe hu1 (aB 0) aE))
    (aL (aW (aB 2))))) aZ)
    (aG (dA (aQ ar (aV hu1 (aB 0) aE) aE) (fe hu1 (aB 0) aE))
    (aG (bK (aa uQ (aV hu1 (aB 0) aE) (ax dH rfl fx.n_len b9 (aA (aV hu1 (aB 0) aE) aD)) (by with_unfolding_all rfl)) (aG (aj (i:=3) nd rfl (by first|exact .inl rfl|exact .inr rfl) (aV hu1 (aV hu1 (aB 0) aE) (aQ lR (aV hu1 (aB 0) aE) aE)))
    (aG (dA (vj (aa o_ge (aB 3) (aQ o_pow aE aE) (by with_unfolding_all rfl)) (aQ ve (aB 3) (aB 1)) aE) (fe hu1 (aB 0) aE))
    (aL (aW (aQ iN (aB 3) (aB 1)))))) aZ)
    (aG (dA (aQ iN (aQ ar (aQ cu (aV hu1 (aB 0) aE) aE) aE) aE) (fe hu1 (aB 0) aE))
    (aL (aW (aQ iN (aQ ve (aV hu1 (aB 0) aE) aE) (aB 1))))))))
abbrev qj:Stmt:=(top 64)
abbrev N_law_leave:List Str:=["_law_net_here","_law_ride","_law_leg_here"]
def lu:MS:=bH (aK (lv0 bL) (aK (lv dY) (eC (.int 1440)) (aK fIx (eV 1) (eC (.int 0)))) (aK fIx (aK fIx (b6 (cM (aK fIx (eV 0) (eC (.int 1)))) (gV 2) (tOf (aK (lv dEq) (aK fIx (eV 2) (eC (.int 0))) (aK fIx (eV 1) (eC (.int 1))))) (eV 2) [2]) (eC (.int 0))) (eC (.int 3))))
def cJ:MF:=bG 1 lu
theorem hJ {P:Program} {w:World} {K:PySem.W.Frag} {mg:Str→Option Value} {base:Heap} (G:Gx P w K mg base):FnE P w K mg base 1 (He.ga K "_law_leave") ["_law_net_here","_law_ride"] cJ:=by
  obtain ⟨fd,F⟩:=G.f_law_leave
  have fx:=G.fx
  refine ⟨fd,?_⟩
  refine au (N:=N_law_leave) (st:=qj) (k:=0) F ⟨rfl,rfl,rfl,by decide +kernel,rfl,by decide +kernel,by decide +kernel⟩ rfl (fun _ _ _ _ _ _ us hl=>match us,hl with|[_,_],_=>rfl) fun cdv A outer s H E hcd hp hr W tk=>?_
  have nd:N_law_leave.Nodup:=by decide +kernel
  have hu1:=ru1 hr
  have hu64:=cS hr
  have hu65:=cU hr
  exact (aL (aW (aQ ar (aQ cu aE (aV hu1 (aB 1) aE)) (aV hu1 (aV hu1 (cF (own:=[("_law_leg_here",2)]) rfl nd (aw (aV hu1 (aB 0) aE)) (blkOk_by (by kernel_rfl)) (fun _ _ _ _ _=>(aq (i:=2) nd rfl (by first|exact .inl rfl|exact .inr rfl) (by decide))) (fun _ _ _ _ _=>(eS (aa (i9 hu64) (aV hu1 (aB 2) aE) (aV hu1 (aB 1) aE) (by with_unfolding_all rfl)))) (fun _ _ _ _ _=>(aB 2))) aE) aE))))
abbrev vI:Stmt:=(top 65)
abbrev N_law_leg:List Str:=["_law_net_here","_law_ride","_law_leg_here"]
def pW:MS:=bH (aK fIx (b6 (cM (aK fIx (eV 0) (eC (.int 1)))) (gV 2) (tOf (aK (lv dEq) (aK fIx (eV 2) (eC (.int 0))) (aK fIx (eV 1) (eC (.int 1))))) (eV 2) [2]) (eC (.int 0)))
def eP:MF:=bG 1 pW
theorem n8 {P:Program} {w:World} {K:PySem.W.Frag} {mg:Str→Option Value} {base:Heap} (G:Gx P w K mg base):FnE P w K mg base 1 (He.ga K "_law_leg") ["_law_net_here","_law_ride"] eP:=by
  obtain ⟨fd,F⟩:=G.f_law_leg
  have fx:=G.fx
  refine ⟨fd,?_⟩
  refine au (N:=N_law_leg) (st:=vI) (k:=0) F ⟨rfl,rfl,rfl,by decide +kernel,rfl,by decide +kernel,by decide +kernel⟩ rfl (fun _ _ _ _ _ _ us hl=>match us,hl with|[_,_],_=>rfl) fun cdv A outer s H E hcd hp hr W tk=>?_
  have nd:N_law_leg.Nodup:=by decide +kernel
  have hu1:=ru1 hr
  have hu64:=cS hr
  have hu65:=cU hr
  exact (aL (aW (aV hu1 (cF (own:=[("_law_leg_here",2)]) rfl nd (aw (aV hu1 (aB 0) aE)) (blkOk_by (by kernel_rfl)) (fun _ _ _ _ _=>(aq (i:=2) nd rfl (by first|exact .inl rfl|exact .inr rfl) (by decide))) (fun _ _ _ _ _=>(eS (aa (i9 hu64) (aV hu1 (aB 2) aE) (aV hu1 (aB 1) aE) (by with_unfolding_all rfl)))) (fun _ _ _ _ _=>(aB 2))) aE)))
abbrev kF:Stmt:=(top 67)
abbrev N_law_can_follow:List Str:=["_law_net_here","_law_turn","_law_one","_law_other","_law_first","_law_second","_law_ready"]
def gq:MS:=aT (rQ 4 5 (aC (aS 2 eP (aC (eV 0) (aC (eV 2) (aJ)))) (aC (aS 2 eP (aC (eV 0) (aC (eV 3) (aJ)))) (aJ))))
  (aT (bF 6 (aK (lv0 bL) (aK (lv0 bL) (aS 2 cJ (aC (eV 0) (aC (eV 2) (aJ)))) (aK fIx (eV 4) (eC (.int 4)))) (eV 1)))
  (bH (jj (aK (lv dEq) (aK fIx (eV 4) (eC (.int 2))) (aK fIx (eV 5) (eC (.int 1)))) (aK (lv dLe) (eV 6) (aS 2 cJ (aC (eV 0) (aC (eV 3) (aJ))))))))
def bE:MF:=bG 3 gq
theorem dn {P:Program} {w:World} {K:PySem.W.Frag} {mg:Str→Option Value} {base:Heap} (G:Gx P w K mg base):FnE P w K mg base 2 (He.ga K "_law_can_follow") ["_law_net_here","_law_turn","_law_one","_law_other"] bE:=by
  obtain ⟨fd,F⟩:=G.f_law_can_follow
  have fx:=G.fx
  refine ⟨fd,?_⟩
  refine au (N:=N_law_can_follow) (st:=kF) (k:=1) F ⟨rfl,rfl,rfl,by decide +kernel,rfl,by decide +kernel,by decide +kernel⟩ rfl (fun _ _ _ _ _ _ us hl=>match us,hl with|[_,_,_,_],_=>rfl) fun cdv A outer s H E hcd hp hr W tk=>?_
  have nd:N_law_can_follow.Nodup:=by decide +kernel
  have hu1:=ru1 hr
  have hu64:=cS hr
  have hu65:=cU hr
  exact (aG (mZ (i:=4) (j:=5) rfl nd rfl rfl (by decide) rfl rfl (aA (aN (ps:=["_law_net_here","_law_ride"]) (m:=eP) (n8 G) (hr.mono (by decide)) fx.d__law_leg tk (aA (aB 0) (aA (aB 2) aD))) (aA (aN (ps:=["_law_net_here","_law_ride"]) (m:=eP) (n8 G) (hr.mono (by decide)) fx.d__law_leg tk (aA (aB 0) (aA (aB 3) aD))) aD)))
    (aG (aj (i:=6) nd rfl (by first|exact .inl rfl|exact .inr rfl) (aQ ar (aQ ar (aN (ps:=["_law_net_here","_law_ride"]) (m:=cJ) (hJ G) (hr.mono (by decide)) fx.d__law_leave tk (aA (aB 0) (aA (aB 2) aD))) (aV hu1 (aB 4) aE)) (aB 1)))
    (aL (aW (fY (eD (i9 hu64) (aV hu1 (aB 4) aE) (aV hu1 (aB 5) aE) (by with_unfolding_all rfl)) (iQ (eD uQ (aB 6) (aN (ps:=["_law_net_here","_law_ride"]) (m:=cJ) (hJ G) (hr.mono (by decide)) fx.d__law_leave tk (aA (aB 0) (aA (aB 3) aD))) (by with_unfolding_all rfl))))))))
abbrev kH:Stmt:=(top 70)
abbrev N_law_are_chains:List Str:=["_law_net_here","_law_turn","_law_rides_here","_law_chains","_law_firsts","_law_chain","_law_every","_law_k"]
def gr:MS:=aT (bF 4 (iR (aJ)))
  (aT (fR (cM (eV 3)) (gV 5) (aT (sIf (c9 (bW (cB (eB cG (aC (eV 5) (aC (eC (.ty "tuple")) (aJ)))))) (tOf (aK (lv dEq) (eV 5) (cZ (aJ))))) (bH (eC (.bool false))) (bo))
  (aT (sIf (tOf (aK (lv dNe) (b6 (kZ (aC (eC (.int 1)) (aC (eB cx (aC (eV 5) (aJ))) (aJ)))) (gV 7) (bW (cB (aS 4 bE (aC (eV 0) (aC (eV 1) (aC (aK fIx (eV 5) (aK (lv qB) (eV 7) (eC (.int 1)))) (aC (aK fIx (eV 5) (eV 7)) (aJ)))))))) (eV 7) [7]) (dF (aJ)))) (bH (eC (.bool false))) (bo))
  (dW (eM bX bD (eV 4) (aC (cZ (aC (aS 2 cJ (aC (eV 0) (aC (aK fIx (eV 5) (eC (.int 0))) (aJ)))) (aC (aK fIx (aK fIx (eV 5) (eC (.int 0))) (eC (.int 1))) (aJ)))) (aJ)))))))
  (aT (bF 6 (dF (aJ)))
  (aT (fR (cM (eV 3)) (gV 5) (bF 6 (aK (lv0 bL) (eV 6) (eB ow (aC (eV 5) (aJ))))))
  (bH (jj (aK (lv dEq) (eB dP (aC (eV 6) (aJ))) (eB dP (aC (eV 2) (aJ)))) (aK (lv dEq) (eV 4) (eB dP (aC (eV 4) (aJ)))))))))
def cY:MF:=bG 4 gr
theorem kI {P:Program} {w:World} {K:PySem.W.Frag} {mg:Str→Option Value} {base:Heap} (G:Gx P w K mg base):FnE P w K mg base 3 (He.ga K "_law_are_chains") ["_law_net_here","_law_turn","_law_rides_here","_law_chains"] cY:=by
  obtain ⟨fd,F⟩:=G.f_law_are_chains
  have fx:=G.fx
  refine ⟨fd,?_⟩
  refine au (N:=N_law_are_chains) (st:=kH) (k:=2) F ⟨rfl,rfl,rfl,by decide +kernel,rfl,by decide +kernel,by decide +kernel⟩ rfl (fun _ _ _ _ _ _ us hl=>match us,hl with|[_,_,_,_],_=>rfl) fun cdv A outer s H E hcd hp hr W tk=>?_
  have nd:N_law_are_chains.Nodup:=by decide +kernel
  have hu1:=ru1 hr
  have hu64:=cS hr
  have hu65:=cU hr
  exact (aG (aj (i:=4) nd rfl (by first|exact .inl rfl|exact .inr rfl) (gK aD))
    (aG (cN hp rfl (aw (aB 3)) (ai (i:=5) nd rfl (by first|exact .inl rfl|exact .inr rfl)) (aG (bK (bv (cO (bN (ay (ax eg rfl fx.n_isinstance aM (aA (aB 5) (aA (dw rfl fx.n_tuple bS) aD))))) (cK (aa (i9 hu64) (aB 5) (bC aD) (by with_unfolding_all rfl))))) (aL (aW bA)) aZ)
    (aG (bK (aa (jf hu64) (cF (own:=[("_law_k",7)]) rfl nd (qI rfl fx.n_range (aA aE (aA (ax dH rfl fx.n_len b9 (aA (aB 5) aD)) aD))) (blkOk_by (by kernel_rfl)) (fun _ _ _ _ _=>(aq (i:=7) nd rfl (by first|exact .inl rfl|exact .inr rfl) (by decide))) (fun _ _ _ _ _=>(eS (bN (ay (aN (ps:=["_law_net_here","_law_turn","_law_one","_law_other"]) (m:=bE) (dn G) (hr.mono (by decide)) fx.d__law_can_follow takes0 (aA (aB 0) (aA (aB 1) (aA (aV hu1 (aB 5) (aQ lR (aB 7) aE)) (aA (aV hu1 (aB 5) (aB 7)) aD))))))))) (fun _ _ _ _ _=>(aB 7))) (bn aD) (by with_unfolding_all rfl)) (aL (aW bA)) aZ)
    (aL (cC (ki eE PySem.F.plainAttrs_list PySem.F.slot_list_append PySem.F.type_list_append dI (aB 4) (aA (bC (aA (aN (ps:=["_law_net_here","_law_ride"]) (m:=cJ) (hJ G) (hr.mono (by decide)) fx.d__law_leave tk (aA (aB 0) (aA (aV hu1 (aB 5) aE) aD))) (aA (aV hu1 (aV hu1 (aB 5) aE) aE) aD))) aD)))))))
    (aG (aj (i:=6) nd rfl (by first|exact .inl rfl|exact .inr rfl) (bn aD))
    (aG (cN hp rfl (aw (aB 3)) (ai (i:=5) nd rfl (by first|exact .inl rfl|exact .inr rfl)) (aL (aj (i:=6) nd rfl (by first|exact .inl rfl|exact .inr rfl) (aQ ar (aB 6) (jB xr rfl fx.n_list qQ (aA (aB 5) aD))))))
    (aL (aW (fY (eD (i9 hu64) (ax (iW hu65) rfl fx.n_sorted fV (aA (aB 6) aD)) (ax (iW hu65) rfl fx.n_sorted fV (aA (aB 2) aD)) (by with_unfolding_all rfl)) (iQ (eD (i9 hu64) (aB 4) (ax (iW hu65) rfl fx.n_sorted fV (aA (aB 4) aD)) (by with_unfolding_all rfl))))))))))
abbrev kJ:Stmt:=(top 68)
abbrev N_law_grown:List Str:=["_law_ride","_law_nexts","_law_behind","_law_met","_law_other"]
def ci:Nat→MF
  | 0=>bG 1 jP
  | n+1=>bG 1 (aT (fR (cM (aK fIx (eV 1) (eV 0))) (gV 4) (sIf (tOf (aK cj (eV 4) (eV 3))) (aT (dW (eM bX bD (eV 3) (aC (eV 4) (aJ))))
  (sIf (c9 (tOf (aK cj (eV 4) (eV 2))) (cB (aS 4 (ci n) (aC (aK fIx (eV 2) (eV 4)) (aC (eV 1) (aC (eV 2) (aC (eV 3) (aJ)))))))) (aT (gz (eV 0) (gQ (eV 2) (eV 4)))
  (bH (eC (.bool true)))) (bo))) (bo)))
  (bH (eC (.bool false))))
theorem kK {P:Program} {w:World} {K:PySem.W.Frag} {mg:Str→Option Value} {base:Heap} (G:Gx P w K mg base):∀n:Nat,FnE P w K mg base (n+1) (He.ga K "_law_grown") ["_law_ride","_law_nexts","_law_behind","_law_met"] (ci n)
  | 0=>by
    obtain ⟨fd,F⟩:=G.f_law_grown
    have h:FnE P w K mg base 1 (He.ga K "_law_grown") ["_law_ride","_law_nexts","_law_behind","_law_met"] (bG 1 jP):=by
      refine ⟨fd,?_⟩
      refine au (N:=N_law_grown) (st:=kJ) (k:=0) F ⟨rfl,rfl,rfl,by decide +kernel,rfl,by decide +kernel,by decide +kernel⟩ rfl (fun _ _ _ _ _ _ us hl=>match us,hl with|[_,_,_,_],_=>rfl) fun cdv A outer s H E hcd hp hr W tk=>?_
      exact pB
    rw[Nat.zero_add]
    exact h
  | n+1=>by
    have ih:=kK G n
    obtain ⟨fd,F⟩:=G.f_law_grown
    have fx:=G.fx
    have h:FnE P w K mg base (n+1+1) (He.ga K "_law_grown") ["_law_ride","_law_nexts","_law_behind","_law_met"] (ci (n+1)):=by
      refine ⟨fd,?_⟩
      refine au (N:=N_law_grown) (st:=kJ) (k:=n+1) F ⟨rfl,rfl,rfl,by decide +kernel,rfl,by decide +kernel,by decide +kernel⟩ rfl (fun _ _ _ _ _ _ us hl=>match us,hl with|[_,_,_,_],_=>rfl) fun cdv A outer s H E hcd hp hr W tk=>?_
      have nd:N_law_grown.Nodup:=by decide +kernel
      have hu1:=ru1 hr
      have hu64:=cS hr
      have hu65:=cU hr
      exact (aG (cN hp rfl (aw (aV hu1 (aB 1) (aB 0))) (ai (i:=4) nd rfl (by first|exact .inl rfl|exact .inr rfl)) (aL (bK (aa (cP hu65) (aB 4) (aB 3) (by with_unfolding_all rfl)) (aG (cC (ki eE PySem.F.plainAttrs_list PySem.F.slot_list_append PySem.F.type_list_append dI (aB 3) (aA (aB 4) aD)))
    (aL (bK (bv (cO (aa (cP hu65) (aB 4) (aB 2) (by with_unfolding_all rfl)) (cK (ay (aN (ps:=["_law_ride","_law_nexts","_law_behind","_law_met"]) (m:=(ci n)) ih hr fx.d__law_grown tk (aA (aV hu1 (aB 2) (aB 4)) (aA (aB 1) (aA (aB 2) (aA (aB 3) aD))))))))) (aG (dA (aB 0) (fe hu1 (aB 2) (aB 4)))
    (aL (aW bA))) aZ))) aZ)))
    (aL (aW bA)))
    rw[show n+1+1=n+1+1 by omega]
    exact h
abbrev tZ:Stmt:=(top 69)
abbrev N_law_many:List Str:=["_law_net_here","_law_turn","_law_rides_here","_law_nexts","_law_behind","_law_one","_law_ride","_law_other"]
def n9:MS:=aT (rQ 3 4 (aC (qF true) (aC (qF true) (aJ))))
  (aT (fR (cM (eV 2)) (gV 5) (gz (b6 (cM (eV 2)) (gV 7) (cB (aS 4 bE (aC (eV 0) (aC (eV 1) (aC (eV 5) (aC (eV 7) (aJ))))))) (eV 7) [7]) (gQ (eV 3) (eV 5))))
  (aT (fR (cM (eV 2)) (gV 6) (dW (aS 4 (ci 120) (aC (eV 6) (aC (eV 3) (aC (eV 4) (aC (iR (aJ)) (aJ))))))))
  (bH (aK (lv qB) (eB cx (aC (eV 2) (aJ))) (eB tC (aC (eV 4) (aJ)))))))
def gA:MF:=bG 5 n9
theorem tj {P:Program} {w:World} {K:PySem.W.Frag} {mg:Str→Option Value} {base:Heap} (G:Gx P w K mg base):FnE P w K mg base 122 (He.ga K "_law_many") ["_law_net_here","_law_turn","_law_rides_here"] gA:=by
  obtain ⟨fd,F⟩:=G.f_law_many
  have fx:=G.fx
  refine ⟨fd,?_⟩
  refine au (N:=N_law_many) (st:=tZ) (k:=121) F ⟨rfl,rfl,rfl,by decide +kernel,rfl,by decide +kernel,by decide +kernel⟩ rfl (fun _ _ _ _ _ _ us hl=>match us,hl with|[_,_,_],_=>rfl) fun cdv A outer s H E hcd hp hr W tk=>?_
  have nd:N_law_many.Nodup:=by decide +kernel
  have hu1:=ru1 hr
  have hu64:=cS hr
  have hu65:=cU hr
  exact (aG (mZ (i:=3) (j:=4) rfl nd rfl rfl (by decide) rfl rfl (aA iq (aA iq aD)))
    (aG (cN hp rfl (aw (aB 2)) (ai (i:=5) nd rfl (by first|exact .inl rfl|exact .inr rfl)) (aL (dA (cF (own:=[("_law_other",7)]) rfl nd (aw (aB 2)) (blkOk_by (by kernel_rfl)) (fun _ _ _ _ _=>(aq (i:=7) nd rfl (by first|exact .inl rfl|exact .inr rfl) (by decide))) (fun _ _ _ _ _=>(eS (ay (aN (ps:=["_law_net_here","_law_turn","_law_one","_law_other"]) (m:=bE) (dn G) (hr.mono (by decide)) fx.d__law_can_follow takes0 (aA (aB 0) (aA (aB 1) (aA (aB 5) (aA (aB 7) aD)))))))) (fun _ _ _ _ _=>(aB 7))) (fe hu1 (aB 3) (aB 5)))))
    (aG (cN hp rfl (aw (aB 2)) (ai (i:=6) nd rfl (by first|exact .inl rfl|exact .inr rfl)) (aL (cC (aN (ps:=["_law_ride","_law_nexts","_law_behind","_law_met"]) (m:=(ci 120)) (kK G 120) (hr.mono (by decide)) fx.d__law_grown tk (aA (aB 6) (aA (aB 3) (aA (aB 4) (aA (gK aD) aD))))))))
    (aL (aW (aQ lR (ax dH rfl fx.n_len b9 (aA (aB 2) aD)) (ax c_lenT rfl fx.n_len b9 (aA (aB 4) aD))))))))
abbrev qk:Stmt:=(top 66)
abbrev N_law_rides:List Str:=["_law_net_here","_law_first","_law_last","_law_found","_law_day","_law_leg_here","_law_leave_here","_law_number"]
def lw:MS:=aT (bF 3 (iR (aJ)))
  (aT (fR (kZ (aC (eV 1) (aC (aK (lv0 bL) (eB ot (aC (eC (.int 60)) (aC (eV 2) (aJ)))) (eC (.int 1))) (aJ)))) (gV 4) (fR (cM (aK fIx (eV 0) (eC (.int 1)))) (gV 5) (sIf (tOf (aK fIn (aK (lv lz) (eV 4) (eC (.int 7))) (aK fIx (eV 5) (eC (.int 5))))) (dW (eM bX bD (eV 3) (aC (cZ (aC (aK (lv0 bL) (aK (lv dY) (eC (.int 1440)) (eV 4)) (aK fIx (eV 5) (eC (.int 3)))) (aC (aK fIx (eV 5) (eC (.int 0))) (aC (eV 4) (aJ))))) (aJ)))) (bo))))
  (bH (b6 (cM (eB dP (aC (eV 3) (aJ)))) (fO 3 (bI (gV 6) (bI (gV 7) (bI (gV 4) (gL))))) (cD) (cZ (aC (eV 4) (aC (eV 7) (aJ)))) [6,7,4])))
def fB:MF:=bG 5 lw
theorem ql {P:Program} {w:World} {K:PySem.W.Frag} {mg:Str→Option Value} {base:Heap} (G:Gx P w K mg base):FnE P w K mg base 1 (He.ga K "_law_rides") ["_law_net_here","_law_first","_law_last"] fB:=by
  obtain ⟨fd,F⟩:=G.f_law_rides
  have fx:=G.fx
  refine ⟨fd,?_⟩
  refine au (N:=N_law_rides) (st:=qk) (k:=0) F ⟨rfl,rfl,rfl,by decide +kernel,rfl,by decide +kernel,by decide +kernel⟩ rfl (fun _ _ _ _ _ _ us hl=>match us,hl with|[_,_,_],_=>rfl) fun cdv A outer s H E hcd hp hr W tk=>?_
  have nd:N_law_rides.Nodup:=by decide +kernel
  have hu1:=ru1 hr
  have hu64:=cS hr
  have hu65:=cU hr
  exact (aG (aj (i:=3) nd rfl (by first|exact .inl rfl|exact .inr rfl) (gK aD))
    (aG (cN hp rfl (qI rfl fx.n_range (aA (aB 1) (aA (aQ ar (ax (xq rfl) rfl fx.n_min yA (aA aE (aA (aB 2) aD))) aE) aD))) (ai (i:=4) nd rfl (by first|exact .inl rfl|exact .inr rfl)) (aL (cN hp rfl (aw (aV hu1 (aB 0) aE)) (ai (i:=5) nd rfl (by first|exact .inl rfl|exact .inr rfl)) (aL (bK (aa (oQ hu65) (aQ iN (aB 4) aE) (aV hu1 (aB 5) aE) (by with_unfolding_all rfl)) (aL (cC (ki eE PySem.F.plainAttrs_list PySem.F.slot_list_append PySem.F.type_list_append dI (aB 3) (aA (bC (aA (aQ ar (aQ cu aE (aB 4)) (aV hu1 (aB 5) aE)) (aA (aV hu1 (aB 5) aE) (aA (aB 4) aD)))) aD)))) aZ)))))
    (aL (aW (cF (own:=[("_law_leave_here",6),("_law_number",7),("_law_day",4)]) rfl nd (aw (ax (iW hu65) rfl fx.n_sorted fV (aA (aB 3) aD))) (blkOk_by (by kernel_rfl)) (fun _ _ _ _ _=>(qJ rfl (dg (aq (i:=6) nd rfl (by first|exact .inl rfl|exact .inr rfl) (by decide)) (dg (aq (i:=7) nd rfl (by first|exact .inl rfl|exact .inr rfl) (by decide)) (dg (aq (i:=4) nd rfl (by first|exact .inl rfl|exact .inr rfl) (by decide)) mD))))) (fun _ _ _ _ _=>cQ) (fun _ _ _ _ _=>(bC (aA (aB 4) (aA (aB 7) aD)))))))))
abbrev oA:Stmt:=(top 62)
abbrev N_law_shuttle:List Str:=["_law_state","_law_names","_law_legs","_law_long","_law_gap","_law_days","_law_k","_law_one","_law_other","_law_name"]
def jG:MS:=aT (rQ 1 2 (aC (rK (dF (aC (eC (.str "aba")) (aC (eC (.str "bcd")) (aC (eC (.str "cad")) (aJ))))) (pNo) (lU (aK (lv0 bL) (eC (.int 2)) (aS 2 aH (aC (eV 0) (aC (eC (.int 2)) (aJ))))))) (aC (iR (aJ)) (aJ))))
  (aT (rQ 3 4 (aC (aK (lv0 bL) (eC (.int 20)) (aK (lv dY) (eC (.int 10)) (aS 2 aH (aC (eV 0) (aC (eC (.int 5)) (aJ)))))) (aC (aK (lv0 bL) (eC (.int 60)) (aK (lv dY) (eC (.int 10)) (aS 2 aH (aC (eV 0) (aC (eC (.int 10)) (aJ)))))) (aJ))))
  (aT (bF 5 (aK fIx (dF (aC (cZ (aC (eC (.int 0)) (aC (eC (.int 1)) (aC (eC (.int 2)) (aC (eC (.int 3)) (aC (eC (.int 4)) (aC (eC (.int 5)) (aC (eC (.int 6)) (aJ))))))))) (aC (cZ (aC (eC (.int 1)) (aC (eC (.int 2)) (aC (eC (.int 5)) (aJ))))) (aC (cZ (aC (aS 2 aH (aC (eV 0) (aC (eC (.int 7)) (aJ)))) (aJ))) (aJ))))) (aS 2 aH (aC (eV 0) (aC (eC (.int 3)) (aJ))))))
  (aT (fR (jR (aC (aK (lv0 bL) (eC (.int 3)) (aS 2 aH (aC (eV 0) (aC (eC (.int 5)) (aJ))))) (aJ))) (gV 6) (aT (rQ 7 8 (aC (aK fIx (eV 1) (aK (lv lz) (eV 6) (eB cx (aC (eV 1) (aJ))))) (aC (aK fIx (eV 1) (aK (lv lz) (aK (lv0 bL) (eV 6) (eC (.int 1))) (eB cx (aC (eV 1) (aJ))))) (aJ))))
  (aT (dW (eM bX bD (eV 2) (aC (cZ (aC (aK (lv0 bL) (eC (.int 10)) (aK (lv dY) (eC (.int 3)) (eV 6))) (aC (eV 7) (aC (eV 8) (aC (aK (lv0 bL) (eC (.int 300)) (aK (lv dY) (eV 4) (eV 6))) (aC (eV 3) (aC (eV 5) (aC (aK (lv0 bL) (eC (.int 100)) (eV 6)) (aJ))))))))) (aJ))))
  (sIf (tOf (aK (lv dGt) (aS 2 aH (aC (eV 0) (aC (eC (.int 3)) (aJ)))) (eC (.int 0)))) (dW (eM bX bD (eV 2) (aC (cZ (aC (aK (lv0 bL) (eC (.int 11)) (aK (lv dY) (eC (.int 3)) (eV 6))) (aC (eV 8) (aC (eV 7) (aC (aK (lv0 bL) (eC (.int 300)) (aK (lv dY) (eV 4) (eV 6))) (aC (aK (lv0 bL) (eV 3) (aK (lv dY) (eC (.int 10)) (aS 2 aH (aC (eV 0) (aC (eC (.int 2)) (aJ)))))) (aC (eV 5) (aC (eC (.int 77)) (aJ))))))))) (aJ)))) (bo)))))
  (bH (cZ (aC (eB jo (aC (b6 (cM (eV 1)) (gV 9) (cD) (cZ (aC (eV 9) (aC (aK (lv0 bL) (eC (.int 10)) (aK (lv dY) (eC (.int 20)) (aS 2 aH (aC (eV 0) (aC (eC (.int 3)) (aJ)))))) (aJ)))) [9]) (aJ))) (aC (eB jo (aC (eV 2) (aJ))) (aJ))))))))
def dL:MF:=bG 9 jG
theorem oB {P:Program} {w:World} {K:PySem.W.Frag} {mg:Str→Option Value} {base:Heap} (G:Gx P w K mg base):FnE P w K mg base 2 (He.ga K "_law_shuttle") ["_law_state"] dL:=by
  obtain ⟨fd,F⟩:=G.f_law_shuttle
  have fx:=G.fx
  refine ⟨fd,?_⟩
  refine au (N:=N_law_shuttle) (st:=oA) (k:=1) F ⟨rfl,rfl,rfl,by decide +kernel,rfl,by decide +kernel,by decide +kernel⟩ rfl (fun _ _ _ _ _ _ us hl=>match us,hl with|[_],_=>rfl) fun cdv A outer s H E hcd hp hr W tk=>?_
  have nd:N_law_shuttle.Nodup:=by decide +kernel
  have hu1:=ru1 hr
  have hu64:=cS hr
  have hu65:=cU hr
  exact (aG (mZ (i:=1) (j:=2) rfl nd rfl rfl (by decide) rfl rfl (aA (mW (bn (aA b8 (aA b8 (aA b8 aD)))) rL (ji (aQ ar aE (aN (ps:=["_law_state","_law_many_here"]) (m:=aH) (aR G) (hr.mono (by decide)) fx.d__law_drawn tk (aA (aB 0) (aA aE aD)))))) (aA (gK aD) aD)))
    (aG (mZ (i:=3) (j:=4) rfl nd rfl rfl (by decide) rfl rfl (aA (aQ ar aE (aQ cu aE (aN (ps:=["_law_state","_law_many_here"]) (m:=aH) (aR G) (hr.mono (by decide)) fx.d__law_drawn tk (aA (aB 0) (aA aE aD))))) (aA (aQ ar aE (aQ cu aE (aN (ps:=["_law_state","_law_many_here"]) (m:=aH) (aR G) (hr.mono (by decide)) fx.d__law_drawn tk (aA (aB 0) (aA aE aD))))) aD)))
    (aG (aj (i:=5) nd rfl (by first|exact .inl rfl|exact .inr rfl) (aV hu1 (bn (aA (bC (aA aE (aA aE (aA aE (aA aE (aA aE (aA aE (aA aE aD)))))))) (aA (bC (aA aE (aA aE (aA aE aD)))) (aA (bC (aA (aN (ps:=["_law_state","_law_many_here"]) (m:=aH) (aR G) (hr.mono (by decide)) fx.d__law_drawn tk (aA (aB 0) (aA aE aD))) aD)) aD)))) (aN (ps:=["_law_state","_law_many_here"]) (m:=aH) (aR G) (hr.mono (by decide)) fx.d__law_drawn tk (aA (aB 0) (aA aE aD)))))
    (aG (cN hp rfl (mC rfl fx.n_range (aA (aQ ar aE (aN (ps:=["_law_state","_law_many_here"]) (m:=aH) (aR G) (hr.mono (by decide)) fx.d__law_drawn tk (aA (aB 0) (aA aE aD)))) aD)) (ai (i:=6) nd rfl (by first|exact .inl rfl|exact .inr rfl)) (aG (mZ (i:=7) (j:=8) rfl nd rfl rfl (by decide) rfl rfl (aA (aV hu1 (aB 1) (aQ iN (aB 6) (ax dH rfl fx.n_len b9 (aA (aB 1) aD)))) (aA (aV hu1 (aB 1) (aQ iN (aQ ar (aB 6) aE) (ax dH rfl fx.n_len b9 (aA (aB 1) aD)))) aD)))
    (aG (cC (ki eE PySem.F.plainAttrs_list PySem.F.slot_list_append PySem.F.type_list_append dI (aB 2) (aA (bC (aA (aQ ar aE (aQ cu aE (aB 6))) (aA (aB 7) (aA (aB 8) (aA (aQ ar aE (aQ cu (aB 4) (aB 6))) (aA (aB 3) (aA (aB 5) (aA (aQ ar aE (aB 6)) aD)))))))) aD)))
    (aL (bK (aa o_gt (aN (ps:=["_law_state","_law_many_here"]) (m:=aH) (aR G) (hr.mono (by decide)) fx.d__law_drawn tk (aA (aB 0) (aA aE aD))) aE (by with_unfolding_all rfl)) (aL (cC (ki eE PySem.F.plainAttrs_list PySem.F.slot_list_append PySem.F.type_list_append dI (aB 2) (aA (bC (aA (aQ ar aE (aQ cu aE (aB 6))) (aA (aB 8) (aA (aB 7) (aA (aQ ar aE (aQ cu (aB 4) (aB 6))) (aA (aQ ar (aB 3) (aQ cu aE (aN (ps:=["_law_state","_law_many_here"]) (m:=aH) (aR G) (hr.mono (by decide)) fx.d__law_drawn tk (aA (aB 0) (aA aE aD))))) (aA (aB 5) (aA aE aD)))))))) aD)))) aZ)))))
    (aL (aW (bC (aA (jB my rfl fx.n_tuple bS (aA (cF (own:=[("_law_name",9)]) rfl nd (aw (aB 1)) (blkOk_by (by kernel_rfl)) (fun _ _ _ _ _=>(aq (i:=9) nd rfl (by first|exact .inl rfl|exact .inr rfl) (by decide))) (fun _ _ _ _ _=>cQ) (fun _ _ _ _ _=>(bC (aA (aB 9) (aA (aQ ar aE (aQ cu aE (aN (ps:=["_law_state","_law_many_here"]) (m:=aH) (aR G) (hr.mono (by decide)) fx.d__law_drawn takes0 (aA (aB 0) (aA aE aD))))) aD))))) aD)) (aA (jB my rfl fx.n_tuple bS (aA (aB 2) aD)) aD)))))))))
abbrev vJ:Stmt:=(top 63)
abbrev N_law_net:List Str:=["_law_state","_law_names","_law_places","_law_legs","_law_k","_law_start_here","_law_goal","_law_out","_law_long","_law_days","_law_fare","_law_name","_law_day"]
def pX:MS:=aT (sIf (tOf (aK (lv dEq) (aS 2 aH (aC (eV 0) (aC (eC (.int 4)) (aJ)))) (eC (.int 0)))) (bH (aS 1 dL (aC (eV 0) (aJ)))) (bo))
  (aT (bF 1 (rK (dF (aC (eC (.str "aba")) (aC (eC (.str "bcd")) (aC (eC (.str "cad")) (aC (eC (.str "dub")) (aC (eC (.str "eli")) (aC (eC (.str "fra")) (aJ)))))))) (pNo) (lU (aK (lv0 bL) (eC (.int 2)) (aS 2 aH (aC (eV 0) (aC (eC (.int 4)) (aJ))))))))
  (aT (bF 2 (eB jo (aC (b6 (cM (eV 1)) (gV 11) (cD) (cZ (aC (eV 11) (aC (aK fIx (dF (aC (eC (.int 30)) (aC (eC (.int 10)) (aC (eC (.int 60)) (aC (aK (lv0 bL) (eC (.int 10)) (aS 2 aH (aC (eV 0) (aC (eC (.int 291)) (aJ))))) (aJ)))))) (aS 2 aH (aC (eV 0) (aC (eC (.int 4)) (aJ))))) (aJ)))) [11]) (aJ))))
  (aT (bF 3 (iR (aJ)))
  (aT (fR (jR (aC (aK (lv0 bL) (eC (.int 2)) (aS 2 aH (aC (eV 0) (aC (aK fIx (dF (aC (eC (.int 6)) (aC (eC (.int 13)) (aJ)))) (aS 2 aH (aC (eV 0) (aC (eC (.int 2)) (aJ))))) (aJ))))) (aJ))) (gV 4) (aT (bF 5 (aS 2 aH (aC (eV 0) (aC (eB cx (aC (eV 1) (aJ))) (aJ)))))
  (aT (bF 6 (aK (lv lz) (aK (lv0 bL) (aK (lv0 bL) (eV 5) (eC (.int 1))) (aS 2 aH (aC (eV 0) (aC (aK (lv qB) (eB cx (aC (eV 1) (aJ))) (eC (.int 1))) (aJ))))) (eB cx (aC (eV 1) (aJ)))))
  (aT (bF 7 (dF (aC (aK (lv dY) (eC (.int 60)) (aS 2 aH (aC (eV 0) (aC (eC (.int 24)) (aJ))))) (aC (aK (lv0 bL) (eC (.int 300)) (aK (lv dY) (eC (.int 10)) (aS 2 aH (aC (eV 0) (aC (eC (.int 60)) (aJ)))))) (aC (aS 2 aH (aC (eV 0) (aC (eC (.int 1440)) (aJ)))) (aJ))))))
  (aT (bF 7 (aK fIx (eV 7) (aS 2 aH (aC (eV 0) (aC (eC (.int 3)) (aJ))))))
  (aT (bF 8 (aK fIx (dF (aC (eC (.int 60)) (aC (aK (lv0 bL) (eC (.int 20)) (aK (lv dY) (eC (.int 10)) (aS 2 aH (aC (eV 0) (aC (eC (.int 30)) (aJ)))))) (aC (aK (lv0 bL) (eC (.int 20)) (aS 2 aH (aC (eV 0) (aC (eC (.int 881)) (aJ))))) (aJ))))) (aK (lv dDiv) (aS 2 aH (aC (eV 0) (aC (eC (.int 9)) (aJ)))) (eC (.int 4)))))
  (aT (bF 9 (eB jo (aC (b6 (jR (aC (eC (.int 7)) (aJ))) (gV 12) (tOf (aK (lv dGt) (aS 2 aH (aC (eV 0) (aC (eC (.int 3)) (aJ)))) (eC (.int 0)))) (eV 12) [12]) (aJ))))
  (aT (bF 9 (eIf (tOf (aK (lv dNe) (eV 9) (cZ (aJ)))) (eV 9) (cZ (aC (aS 2 aH (aC (eV 0) (aC (eC (.int 7)) (aJ)))) (aJ)))))
  (aT (bF 10 (aK fIx (dF (aC (eC (.int 100)) (aC (aK (lv0 bL) (eC (.int 1)) (aS 2 aH (aC (eV 0) (aC (eC (.int 1000)) (aJ))))) (aC (aK (lv0 bL) (eC (.int 1)) (aS 2 aH (aC (eV 0) (aC (eC (.int 100000)) (aJ))))) (aJ))))) (aS 2 aH (aC (eV 0) (aC (eC (.int 3)) (aJ))))))
  (aT (dW (eM bX bD (eV 3) (aC (cZ (aC (aK (lv0 bL) (eC (.int 100)) (aK (lv dY) (eC (.int 7)) (eV 4))) (aC (aK fIx (eV 1) (eV 5)) (aC (aK fIx (eV 1) (eV 6)) (aC (eV 7) (aC (eV 8) (aC (eV 9) (aC (eV 10) (aJ))))))))) (aJ))))
  (sIf (tOf (aK (lv dEq) (aS 2 aH (aC (eV 0) (aC (eC (.int 2)) (aJ)))) (eC (.int 0)))) (dW (eM bX bD (eV 3) (aC (cZ (aC (aK (lv0 bL) (eC (.int 103)) (aK (lv dY) (eC (.int 7)) (eV 4))) (aC (aK fIx (eV 1) (eV 6)) (aC (aK fIx (eV 1) (eV 5)) (aC (aK (lv lz) (aK (lv0 bL) (aK (lv0 bL) (eV 7) (eV 8)) (eC (.int 60))) (eC (.int 1440))) (aC (eV 8) (aC (eV 9) (aC (eV 10) (aJ))))))))) (aJ)))) (bo))))))))))))
  (bH (cZ (aC (eV 2) (aC (eB jo (aC (eIf (tOf (aK (lv dEq) (aS 2 aH (aC (eV 0) (aC (eC (.int 2)) (aJ)))) (eC (.int 0)))) (eV 3) (eRev (eV 3))) (aJ))) (aJ)))))))))
def gt:MF:=bG 12 pX
theorem vK {P:Program} {w:World} {K:PySem.W.Frag} {mg:Str→Option Value} {base:Heap} (G:Gx P w K mg base):FnE P w K mg base 3 (He.ga K "_law_net") ["_law_state"] gt:=by
  obtain ⟨fd,F⟩:=G.f_law_net
  have fx:=G.fx
  refine ⟨fd,?_⟩
  refine au (N:=N_law_net) (st:=vJ) (k:=2) F ⟨rfl,rfl,rfl,by decide +kernel,rfl,by decide +kernel,by decide +kernel⟩ rfl (fun _ _ _ _ _ _ us hl=>match us,hl with|[_],_=>rfl) fun cdv A outer s H E hcd hp hr W tk=>?_
  have nd:N_law_net.Nodup:=by decide +kernel
  have hu1:=ru1 hr
  have hu64:=cS hr
  have hu65:=cU hr
  exact (aG (bK (aa (i9 hu64) (aN (ps:=["_law_state","_law_many_here"]) (m:=aH) (aR G) (hr.mono (by decide)) fx.d__law_drawn tk (aA (aB 0) (aA aE aD))) aE (by with_unfolding_all rfl)) (aL (aW (aN (ps:=["_law_state"]) (m:=dL) (oB G) (hr.mono (by decide)) fx.d__law_shuttle tk (aA (aB 0) aD)))) aZ)
    (aG (aj (i:=1) nd rfl (by first|exact .inl rfl|exact .inr rfl) (mW (bn (aA b8 (aA b8 (aA b8 (aA b8 (aA b8 (aA b8 aD))))))) rL (ji (aQ ar aE (aN (ps:=["_law_state","_law_many_here"]) (m:=aH) (aR G) (hr.mono (by decide)) fx.d__law_drawn tk (aA (aB 0) (aA aE aD)))))))
    (aG (aj (i:=2) nd rfl (by first|exact .inl rfl|exact .inr rfl) (jB my rfl fx.n_tuple bS (aA (cF (own:=[("_law_name",11)]) rfl nd (aw (aB 1)) (blkOk_by (by kernel_rfl)) (fun _ _ _ _ _=>(aq (i:=11) nd rfl (by first|exact .inl rfl|exact .inr rfl) (by decide))) (fun _ _ _ _ _=>cQ) (fun _ _ _ _ _=>(bC (aA (aB 11) (aA (aV hu1 (bn (aA aE (aA aE (aA aE (aA (aQ ar aE (aN (ps:=["_law_state","_law_many_here"]) (m:=aH) (aR G) (hr.mono (by decide)) fx.d__law_drawn takes0 (aA (aB 0) (aA aE aD)))) aD))))) (aN (ps:=["_law_state","_law_many_here"]) (m:=aH) (aR G) (hr.mono (by decide)) fx.d__law_drawn takes0 (aA (aB 0) (aA aE aD)))) aD))))) aD)))
    (aG (aj (i:=3) nd rfl (by first|exact .inl rfl|exact .inr rfl) (gK aD))
    (aG (cN hp rfl (mC rfl fx.n_range (aA (aQ ar aE (aN (ps:=["_law_state","_law_many_here"]) (m:=aH) (aR G) (hr.mono (by decide)) fx.d__law_drawn tk (aA (aB 0) (aA (aV hu1 (bn (aA aE (aA aE aD))) (aN (ps:=["_law_state","_law_many_here"]) (m:=aH) (aR G) (hr.mono (by decide)) fx.d__law_drawn tk (aA (aB 0) (aA aE aD)))) aD)))) aD)) (ai (i:=4) nd rfl (by first|exact .inl rfl|exact .inr rfl)) (aG (aj (i:=5) nd rfl (by first|exact .inl rfl|exact .inr rfl) (aN (ps:=["_law_state","_law_many_here"]) (m:=aH) (aR G) (hr.mono (by decide)) fx.d__law_drawn tk (aA (aB 0) (aA (ax dH rfl fx.n_len b9 (aA (aB 1) aD)) aD))))
    (aG (aj (i:=6) nd rfl (by first|exact .inl rfl|exact .inr rfl) (aQ iN (aQ ar (aQ ar (aB 5) aE) (aN (ps:=["_law_state","_law_many_here"]) (m:=aH) (aR G) (hr.mono (by decide)) fx.d__law_drawn tk (aA (aB 0) (aA (aQ lR (ax dH rfl fx.n_len b9 (aA (aB 1) aD)) aE) aD)))) (ax dH rfl fx.n_len b9 (aA (aB 1) aD))))
    (aG (aj (i:=7) nd rfl (by first|exact .inl rfl|exact .inr rfl) (bn (aA (aQ cu aE (aN (ps:=["_law_state","_law_many_here"]) (m:=aH) (aR G) (hr.mono (by decide)) fx.d__law_drawn tk (aA (aB 0) (aA aE aD)))) (aA (aQ ar aE (aQ cu aE (aN (ps:=["_law_state","_law_many_here"]) (m:=aH) (aR G) (hr.mono (by decide)) fx.d__law_drawn tk (aA (aB 0) (aA aE aD))))) (aA (aN (ps:=["_law_state","_law_many_here"]) (m:=aH) (aR G) (hr.mono (by decide)) fx.d__law_drawn tk (aA (aB 0) (aA aE aD))) aD)))))
    (aG (aj (i:=7) nd rfl (by first|exact .inl rfl|exact .inr rfl) (aV hu1 (aB 7) (aN (ps:=["_law_state","_law_many_here"]) (m:=aH) (aR G) (hr.mono (by decide)) fx.d__law_drawn tk (aA (aB 0) (aA aE aD)))))
    (aG (aj (i:=8) nd rfl (by first|exact .inl rfl|exact .inr rfl) (aV hu1 (bn (aA aE (aA (aQ ar aE (aQ cu aE (aN (ps:=["_law_state","_law_many_here"]) (m:=aH) (aR G) (hr.mono (by decide)) fx.d__law_drawn tk (aA (aB 0) (aA aE aD))))) (aA (aQ ar aE (aN (ps:=["_law_state","_law_many_here"]) (m:=aH) (aR G) (hr.mono (by decide)) fx.d__law_drawn tk (aA (aB 0) (aA aE aD)))) aD)))) (aQ ve (aN (ps:=["_law_state","_law_many_here"]) (m:=aH) (aR G) (hr.mono (by decide)) fx.d__law_drawn tk (aA (aB 0) (aA aE aD))) aE)))
    (aG (aj (i:=9) nd rfl (by first|exact .inl rfl|exact .inr rfl) (jB my rfl fx.n_tuple bS (aA (cF (own:=[("_law_day",12)]) rfl nd (mC rfl fx.n_range (aA aE aD)) (blkOk_by (by kernel_rfl)) (fun _ _ _ _ _=>(aq (i:=12) nd rfl (by first|exact .inl rfl|exact .inr rfl) (by decide))) (fun _ _ _ _ _=>(eS (aa o_gt (aN (ps:=["_law_state","_law_many_here"]) (m:=aH) (aR G) (hr.mono (by decide)) fx.d__law_drawn takes0 (aA (aB 0) (aA aE aD))) aE (by with_unfolding_all rfl)))) (fun _ _ _ _ _=>(aB 12))) aD)))
    (aG (aj (i:=9) nd rfl (by first|exact .inl rfl|exact .inr rfl) (vj (aa (jf hu64) (aB 9) (bC aD) (by with_unfolding_all rfl)) (aB 9) (bC (aA (aN (ps:=["_law_state","_law_many_here"]) (m:=aH) (aR G) (hr.mono (by decide)) fx.d__law_drawn tk (aA (aB 0) (aA aE aD))) aD))))
    (aG (aj (i:=10) nd rfl (by first|exact .inl rfl|exact .inr rfl) (aV hu1 (bn (aA aE (aA (aQ ar aE (aN (ps:=["_law_state","_law_many_here"]) (m:=aH) (aR G) (hr.mono (by decide)) fx.d__law_drawn tk (aA (aB 0) (aA aE aD)))) (aA (aQ ar aE (aN (ps:=["_law_state","_law_many_here"]) (m:=aH) (aR G) (hr.mono (by decide)) fx.d__law_drawn tk (aA (aB 0) (aA aE aD)))) aD)))) (aN (ps:=["_law_state","_law_many_here"]) (m:=aH) (aR G) (hr.mono (by decide)) fx.d__law_drawn tk (aA (aB 0) (aA aE aD)))))
    (aG (cC (ki eE PySem.F.plainAttrs_list PySem.F.slot_list_append PySem.F.type_list_append dI (aB 3) (aA (bC (aA (aQ ar aE (aQ cu aE (aB 4))) (aA (aV hu1 (aB 1) (aB 5)) (aA (aV hu1 (aB 1) (aB 6)) (aA (aB 7) (aA (aB 8) (aA (aB 9) (aA (aB 10) aD)))))))) aD)))
    (aL (bK (aa (i9 hu64) (aN (ps:=["_law_state","_law_many_here"]) (m:=aH) (aR G) (hr.mono (by decide)) fx.d__law_drawn tk (aA (aB 0) (aA aE aD))) aE (by with_unfolding_all rfl)) (aL (cC (ki eE PySem.F.plainAttrs_list PySem.F.slot_list_append PySem.F.type_list_append dI (aB 3) (aA (bC (aA (aQ ar aE (aQ cu aE (aB 4))) (aA (aV hu1 (aB 1) (aB 6)) (aA (aV hu1 (aB 1) (aB 5)) (aA (aQ iN (aQ ar (aQ ar (aB 7) (aB 8)) aE) aE) (aA (aB 8) (aA (aB 9) (aA (aB 10) aD)))))))) aD)))) aZ))))))))))))
    (aL (aW (bC (aA (aB 2) (aA (jB my rfl fx.n_tuple bS (aA (vj (aa (i9 hu64) (aN (ps:=["_law_state","_law_many_here"]) (m:=aH) (aR G) (hr.mono (by decide)) fx.d__law_drawn tk (aA (aB 0) (aA aE aD))) aE (by with_unfolding_all rfl)) (aB 3) (sE_rev (aB 3))) aD)) aD))))))))))
abbrev qm:Stmt:=(top 58)
abbrev N_law_start:List Str:=["_law_script","_law_mixed","_law_cell"]
def lx:MS:=aT (bF 1 (eC (.int 1)))
  (aT (fR (cM (eV 0)) (gV 2) (bF 1 (aK (lv lz) (aK (lv0 bL) (aK (lv0 bL) (aK (lv dY) (eV 1) (eC (.int 48271))) (eV 2)) (eC (.int 7))) (eC (.int 2147483647)))))
  (bH (iR (aC (eV 0) (aC (eC (.int 0)) (aC (eV 1) (aC (eC (.int 0)) (aJ))))))))
def fC:MF:=bG 2 lx
theorem qo {P:Program} {w:World} {K:PySem.W.Frag} {mg:Str→Option Value} {base:Heap} (G:Gx P w K mg base):FnE P w K mg base 1 (He.ga K "_law_start") ["_law_script"] fC:=by
  obtain ⟨fd,F⟩:=G.f_law_start
  have fx:=G.fx
  refine ⟨fd,?_⟩
  refine au (N:=N_law_start) (st:=qm) (k:=0) F ⟨rfl,rfl,rfl,by decide +kernel,rfl,by decide +kernel,by decide +kernel⟩ rfl (fun _ _ _ _ _ _ us hl=>match us,hl with|[_],_=>rfl) fun cdv A outer s H E hcd hp hr W tk=>?_
  have nd:N_law_start.Nodup:=by decide +kernel
  have hu1:=ru1 hr
  have hu64:=cS hr
  have hu65:=cU hr
  exact (aG (aj (i:=1) nd rfl (by first|exact .inl rfl|exact .inr rfl) aE)
    (aG (cN hp rfl (aw (aB 0)) (ai (i:=2) nd rfl (by first|exact .inl rfl|exact .inr rfl)) (aL (aj (i:=1) nd rfl (by first|exact .inl rfl|exact .inr rfl) (aQ iN (aQ ar (aQ ar (aQ cu (aB 1) aE) (aB 2)) aE) aE))))
    (aL (aW (gK (aA (aB 0) (aA aE (aA (aB 1) (aA aE aD)))))))))
abbrev zD:Stmt:=(top 71)
abbrev N_law:List Str:=["_law_script","_law_state","_law_again","_law_net_here","_law_turn","_law_first","_law_last","_law_rides_here","_law_many_here","_law_chains","_law_cover","_law_one","_law_other","_law_odd","_law_works","_law_work","_law_a","_law_b","_law_c"]
def hO (q:Str) (F0 F1 F2 F3:Value→Addr→Value→Value→Obj):g6:=[(false,q,F0,(aS 4 bw (aC (eV 3) (aC (eV 13) (aC (eC (.int 9)) (aC (eC (.int 8)) (aJ))))))),(true,q,F1,(fun env S=>(aS 4 bw (aC (eV 3) (aC (eV 4) (aC (eC (.int 9)) (aC (eC (.int 8)) (aJ)))))) (env.set 16 (some (.int 0))) S)),(true,q,F2,(fun env S=>(aS 5 ak (aC (eV 3) (aC (eV 13) (aC (eC (.int 9)) (aC (eC (.int 8)) (aC (eC (.int 0)) (aJ))))))) (env.set 17 (some (.int 0))) S)),(true,q,F3,(fun env S=>(aS 5 ak (aC (eV 3) (aC (eV 4) (aC (eC (.int 9)) (aC (eC (.int 8)) (aC (eC (.int 0)) (aJ))))))) (env.set 18 (some (.int 0))) S))]
def eQ:List ME:=[(aS 4 bw (aC (eV 3) (aC (eV 13) (aC (eC (.int 9)) (aC (eC (.int 8)) (aJ)))))),(fun env S=>(aS 4 bw (aC (eV 3) (aC (eV 4) (aC (eC (.int 9)) (aC (eC (.int 8)) (aJ)))))) (env.set 16 (some (.int 0))) S),(fun env S=>(aS 5 ak (aC (eV 3) (aC (eV 13) (aC (eC (.int 9)) (aC (eC (.int 8)) (aC (eC (.int 0)) (aJ))))))) (env.set 17 (some (.int 0))) S),(fun env S=>(aS 5 ak (aC (eV 3) (aC (eV 4) (aC (eC (.int 9)) (aC (eC (.int 8)) (aC (eC (.int 0)) (aJ))))))) (env.set 18 (some (.int 0))) S)]
def oC:MS:=bo
abbrev oD (q:Str) (F0 F1 F2 F3:Value→Addr→Value→Value→Obj):MS:=aT (bF 14 (dF (aC (sG 0 false q F0) (aC (sG 1 true q F1) (aJ)))))
  (aT (bF 14 (aK (lv0 bL) (eV 14) (dF (aC (sG 2 true q F2) (aC (sG 3 true q F3) (aJ))))))
  (aT (sIf (tOf (aK (lv dNe) (b6 (cM (eV 14)) (gV 15) cD (fM hdK 15 [14,15] (hO q F0 F1 F2 F3)) [15]) (aK (lv dRep) (dF (aC (eC (.str "BadCount")) (aC (eC (.str "BadDay")) (aJ)))) (eC (.int 2))))) (bH (eC (.bool false))) (bo))
  (aT (oV [14]) oC)))
def gu:MS:=aT (oV [14]) (aT (sIf (tOf (aK (lv dNe) (eG hdK [14,15] eQ) (aK (lv dRep) (dF (aC (eC (.str "BadCount")) (aC (eC (.str "BadDay")) (aJ)))) (eC (.int 2))))) (bH (eC (.bool false))) (bo)) oC)
theorem tq (q:Str) (F0 F1 F2 F3:Value→Addr→Value→Value→Obj):sK 19 (oD q F0 F1 F2 F3)=sK 19 gu:=by
  funext env S
  unfold sK
  by_cases hn:env.length=19
  · rw[if_pos hn,if_pos hn]
    have hi0:14<env.length:=by omega
    have hj0:15<env.length:=by omega
    have hi:14<env.length:=by simpa using hi0
    have he:∀v:Option D,(env.set 14 v)[14]?=some v:=fun v=>List.getElem?_set_self hi
    have hcl:sJ 0 (hO q F0 F1 F2 F3)=[.clo 0 false q F0,.clo 1 true q F1,.clo 2 true q F2,.clo 3 true q F3]:=rfl
    have hms:(hO q F0 F1 F2 F3).map (fun e=>e.2.2.2)=eQ:=rfl
    have hc:=wq (hd:=hdK) (j:=15) (fg:=[14,15]) (tab:=hO q F0 F1 F2 F3) (mi:=cM (eV 14)) (env:=env.set 14 (some (.lst [.clo 0 false q F0,.clo 1 true q F1,.clo 2 true q F2,.clo 3 true q F3]))) (S:=S) (by rw[hcl]; simp[he,bO]) (by rw[List.length_set]; simpa using hj0) (by decide)
    rw[nM (by decide),hms] at hc
    have hT:eG hdK [14,15] eQ (env.set 14 none) S=eG hdK [14,15] eQ env S:=nM (by decide)
    rcases qU hdK [14,15] eQ env S with ⟨d,S2,e⟩|e
    · rw[e] at hc hT
      unfold oD gu
      simp[-r8,oV,aU,sG,wB,bL,he,hc,hT,yW]
      all_goals first|exact yX _ _ _ _ _ _ _ _ (by simp[wC,oV,aU,nN])|(rw[List.set_comm _ _ (show (999:Nat)≠14 by decide),List.set_set])|(split<;>simp[oV,aU])
    · rw[e] at hc hT
      unfold oD gu
      simp[-r8,oV,aU,sG,wB,bL,he,hc,hT,yW]
      all_goals first|exact yX _ _ _ _ _ _ _ _ (by simp[wC,oV,aU,nN])|(rw[List.set_comm _ _ (show (999:Nat)≠14 by decide),List.set_set])|(split<;>simp[oV,aU])
  · rw[if_neg hn,if_neg hn]
def b_law:MS:=aT (bF 1 (aS 1 fC (aC (eV 0) (aJ))))
  (aT (fR (jR (aC (eC (.int 2)) (aJ))) (gV 2) (aT (bF 3 (aS 1 gt (aC (eV 1) (aJ))))
  (aT (bF 4 (aK fIx (dF (aC (eC (.int 30)) (aC (eC (.int 10)) (aC (eC (.int 60)) (aC (aK (lv0 bL) (eC (.int 10)) (aS 2 aH (aC (eV 1) (aC (eC (.int 291)) (aJ))))) (aJ)))))) (aS 2 aH (aC (eV 1) (aC (eC (.int 4)) (aJ))))))
  (aT (bF 5 (aS 2 aH (aC (eV 1) (aC (eC (.int 58)) (aJ)))))
  (aT (bF 6 (eB ot (aC (eC (.int 60)) (aC (aK (lv0 bL) (eV 5) (aS 2 aH (aC (eV 1) (aC (aK fIx (dF (aC (eC (.int 3)) (aC (eC (.int 7)) (aJ)))) (eB qL (aC (aK (lv dLt) (eB cx (aC (aK fIx (eV 3) (eC (.int 1))) (aJ))) (eC (.int 7))) (aJ)))) (aJ))))) (aJ)))))
  (aT (bF 7 (aS 3 fB (aC (eV 3) (aC (eV 5) (aC (eV 6) (aJ))))))
  (aT (gz (aS 4 bw (aC (eV 3) (aC (eV 4) (aC (eV 5) (aC (eV 6) (aJ)))))) (fO 3 (bI (gV 8) (bI (gV 9) (bI (gV 10) (gL))))))
  (aT (sIf (c9 (tOf (aK (lv dNe) (eV 8) (aS 3 gA (aC (eV 3) (aC (eV 4) (aC (eV 7) (aJ))))))) (c9 (bW (cB (eB cG (aC (eV 9) (aC (eC (.ty "list")) (aJ)))))) (tOf (aK (lv dNe) (eB cx (aC (eV 9) (aJ))) (eV 8))))) (bH (eC (.bool false))) (bo))
  (aT (sIf (c9 (bW (cB (aS 4 cY (aC (eV 3) (aC (eV 4) (aC (eV 7) (aC (eV 9) (aJ)))))))) (bW (cB (eB cG (aC (eV 10) (aC (eC (.ty "tuple")) (aJ))))))) (bH (eC (.bool false))) (bo))
  (aT (sIf (c9 (tOf (aK (lv dNe) (eB ow (aC (eV 10) (aJ))) (iz true (eV 10)))) (tOf (aK (lv dNe) (aS 5 ak (aC (eV 3) (aC (eV 4) (aC (eV 5) (aC (eV 6) (aC (eV 10) (aJ))))))) (eV 8)))) (bH (eC (.bool false))) (bo))
  (aT (fR (cM (eV 7)) (gV 11) (fR (cM (eV 7)) (gV 12) (sIf (mX (cB (aS 4 bE (aC (eV 3) (aC (eV 4) (aC (eV 11) (aC (eV 12) (aJ))))))) (mX (tOf (aK cj (cZ (aC (eC (.int 0)) (aC (eV 11) (aJ)))) (eV 10))) (tOf (aK cj (cZ (aC (eC (.int 1)) (aC (eV 12) (aJ)))) (eV 10))))) (bH (eC (.bool false))) (bo))))
  (aT (sIf (tOf (aK (lv dNe) (aK (lv qB) (eB cx (aC (eV 7) (aJ))) (eB cx (aC (eV 10) (aJ)))) (eV 8))) (bH (eC (.bool false))) (bo))
  (aT (bF 13 (aK fIx (dF (aC (eC (.int 9)) (aC (eC (.int 301)) (aC (eC (.bool true)) (aC (eC .none) (aC (eC (.str "30")) (aJ))))))) (aS 2 aH (aC (eV 1) (aC (eC (.int 5)) (aJ))))))
  (sK 19 gu))))))))))))))
  (bH (eC (.bool true))))
def tr:MF:=bG 18 b_law
theorem ok_law {P:Program} {w:World} {K:PySem.W.Frag} {mg:Str→Option Value} {base:Heap} (G:Gx P w K mg base) {fd:FuncData} (F:FunD K "law" "law" (defArgs (top 71)) (defBody (top 71)) (defScope (top 71)) [] [] (He.ga K "law") fd):FnM P w K mg base 133 (He.ga K "law") fd ["_law_script"] tr:=by
  have fx:=G.fx
  refine au (N:=N_law) (st:=zD) (k:=132) F ⟨rfl,rfl,rfl,by decide +kernel,rfl,by decide +kernel,by decide +kernel⟩ rfl (fun _ _ _ _ _ _ us hl=>match us,hl with|[_],_=>rfl) fun cdv A outer s H E hcd hp hr W tk=>?_
  have nd:N_law.Nodup:=by decide +kernel
  have hu1:=ru1 hr
  have hu64:=cS hr
  have hu65:=cU hr
  have lh:=m9 (X:=cxOf (L2N.CX P w) P w K mg base N_law "law" (defScope zD) (He.ga K "law") cdv A outer s H E) (p:=("law",none)) F rfl (G.tb (("law",none),"law.<locals>.<lambda>") (by decide)) hcd.symm rfl (G.tm (("law",none),"law.<locals>.<lambda>") (by decide)) (G.tu (("law",none),"law.<locals>.<lambda>") (by decide))
  exact (aG (aj (i:=1) nd rfl (by first|exact .inl rfl|exact .inr rfl) (aN (ps:=["_law_script"]) (m:=fC) (qo G) (hr.mono (by decide)) fx.d__law_start tk (aA (aB 0) aD)))
    (aG (cN hp rfl (mC rfl fx.n_range (aA aE aD)) (ai (i:=2) nd rfl (by first|exact .inl rfl|exact .inr rfl)) (aG (aj (i:=3) nd rfl (by first|exact .inl rfl|exact .inr rfl) (aN (ps:=["_law_state"]) (m:=gt) (vK G) (hr.mono (by decide)) fx.d__law_net tk (aA (aB 1) aD)))
    (aG (aj (i:=4) nd rfl (by first|exact .inl rfl|exact .inr rfl) (aV hu1 (bn (aA aE (aA aE (aA aE (aA (aQ ar aE (aN (ps:=["_law_state","_law_many_here"]) (m:=aH) (aR G) (hr.mono (by decide)) fx.d__law_drawn tk (aA (aB 1) (aA aE aD)))) aD))))) (aN (ps:=["_law_state","_law_many_here"]) (m:=aH) (aR G) (hr.mono (by decide)) fx.d__law_drawn tk (aA (aB 1) (aA aE aD)))))
    (aG (aj (i:=5) nd rfl (by first|exact .inl rfl|exact .inr rfl) (aN (ps:=["_law_state","_law_many_here"]) (m:=aH) (aR G) (hr.mono (by decide)) fx.d__law_drawn tk (aA (aB 1) (aA aE aD))))
    (aG (aj (i:=6) nd rfl (by first|exact .inl rfl|exact .inr rfl) (ax (xq rfl) rfl fx.n_min yA (aA aE (aA (aQ ar (aB 5) (aN (ps:=["_law_state","_law_many_here"]) (m:=aH) (aR G) (hr.mono (by decide)) fx.d__law_drawn tk (aA (aB 1) (aA (aV hu1 (bn (aA aE (aA aE aD))) (jB c_int rfl fx.n_int yB (aA (eD o_lt (ax dH rfl fx.n_len b9 (aA (aV hu1 (aB 3) aE) aD)) aE (by with_unfolding_all rfl)) aD))) aD)))) aD))))
    (aG (aj (i:=7) nd rfl (by first|exact .inl rfl|exact .inr rfl) (aN (ps:=["_law_net_here","_law_first","_law_last"]) (m:=fB) (ql G) (hr.mono (by decide)) fx.d__law_rides tk (aA (aB 3) (aA (aB 5) (aA (aB 6) aD)))))
    (aG (dA (aN (ps:=["net","turn","first","last"]) (m:=bw) (lH G) (hr.mono (by decide)) fx.d_fewest tk (aA (aB 3) (aA (aB 4) (aA (aB 5) (aA (aB 6) aD))))) (jQ rfl (bM (ai (i:=8) nd rfl (by first|exact .inl rfl|exact .inr rfl)) (bM (ai (i:=9) nd rfl (by first|exact .inl rfl|exact .inr rfl)) (bM (ai (i:=10) nd rfl (by first|exact .inl rfl|exact .inr rfl)) gy)))))
    (aG (bK (bv (cO (aa (jf hu64) (aB 8) (aN (ps:=["_law_net_here","_law_turn","_law_rides_here"]) (m:=gA) (tj G) (hr.mono (by decide)) fx.d__law_many tk (aA (aB 3) (aA (aB 4) (aA (aB 7) aD)))) (by with_unfolding_all rfl)) (cO (bN (ay (ax eg rfl fx.n_isinstance aM (aA (aB 9) (aA (dw rfl fx.n_list qQ) aD))))) (cK (aa (jf hu64) (ax dH rfl fx.n_len b9 (aA (aB 9) aD)) (aB 8) (by with_unfolding_all rfl)))))) (aL (aW bA)) aZ)
    (aG (bK (bv (cO (bN (ay (aN (ps:=["_law_net_here","_law_turn","_law_rides_here","_law_chains"]) (m:=cY) (kI G) (hr.mono (by decide)) fx.d__law_are_chains tk (aA (aB 3) (aA (aB 4) (aA (aB 7) (aA (aB 9) aD))))))) (cK (bN (ay (ax eg rfl fx.n_isinstance aM (aA (aB 10) (aA (dw rfl fx.n_tuple bS) aD)))))))) (aL (aW bA)) aZ)
    (aG (bK (bv (cO (aa (jf hu64) (jB xr rfl fx.n_list qQ (aA (aB 10) aD)) (sy true hu65 rfl rfl fx.n_sorted rfl fx.n_set (aB 10)) (by with_unfolding_all rfl)) (cK (aa (jf hu64) (aN (ps:=["net","turn","first","last","cover"]) (m:=ak) (fN G) (hr.mono (by decide)) fx.d_shown_planes tk (aA (aB 3) (aA (aB 4) (aA (aB 5) (aA (aB 6) (aA (aB 10) aD)))))) (aB 8) (by with_unfolding_all rfl))))) (aL (aW bA)) aZ)
    (aG (cN hp rfl (aw (aB 7)) (ai (i:=11) nd rfl (by first|exact .inl rfl|exact .inr rfl)) (aL (cN hp rfl (aw (aB 7)) (ai (i:=12) nd rfl (by first|exact .inl rfl|exact .inr rfl)) (aL (bK (bv (qE (ay (aN (ps:=["_law_net_here","_law_turn","_law_one","_law_other"]) (m:=bE) (dn G) (hr.mono (by decide)) fx.d__law_can_follow tk (aA (aB 3) (aA (aB 4) (aA (aB 11) (aA (aB 12) aD)))))) (qE (aa (cP hu65) (bC (aA aE (aA (aB 11) aD))) (aB 10) (by with_unfolding_all rfl)) (vi (aa (cP hu65) (bC (aA aE (aA (aB 12) aD))) (aB 10) (by with_unfolding_all rfl)))))) (aL (aW bA)) aZ)))))
    (aG (bK (aa (jf hu64) (aQ lR (ax dH rfl fx.n_len b9 (aA (aB 7) aD)) (ax dH rfl fx.n_len b9 (aA (aB 10) aD))) (aB 8) (by with_unfolding_all rfl)) (aL (aW bA)) aZ)
    (aG (aj (i:=13) nd rfl (by first|exact .inl rfl|exact .inr rfl) (aV hu1 (bn (aA aE (aA aE (aA bA (aA l9 (aA b8 aD)))))) (aN (ps:=["_law_state","_law_many_here"]) (m:=aH) (aR G) (hr.mono (by decide)) fx.d__law_drawn tk (aA (aB 1) (aA aE aD)))))
    (sSs_eq (tq _ _ _ _ _) (AB 19 (aG (aj (i:=14) nd rfl (by first|exact .inl rfl|exact .inr rfl) (bn (aA (z8 (k:=0) lh (lamS_by (by kernel_rfl)) rfl rfl) (aA (qT (k:=1) (x:="_law_a") lh (fi (by kernel_rfl)) rfl rfl) aD))))
    (aG (aj (i:=14) nd rfl (by first|exact .inl rfl|exact .inr rfl) (aQ ar (aB 14) (bn (aA (qT (k:=2) (x:="_law_b") lh (fi (by kernel_rfl)) rfl rfl) (aA (qT (k:=3) (x:="_law_c") lh (fi (by kernel_rfl)) rfl rfl) aD)))))
    (aG (bK (aa (jf hu64) (yV (k:=nj) (own:=[("_law_work",15)]) (hd:=hdK) (j:=15) (fg:=[14,15]) rfl nd (Ae G) fx.d__law_kind (hr.mono (by decide)) rfl rfl rfl (mH (qCl0 (k:=nj) (lamS_by (by kernel_rfl)) (fun A outer s H E f c' hr W tk2=>by
    have hu1:=ru1 hr
    have hu64:=cS hr
    have hu65:=cU hr
    exact (aN (ps:=["net","turn","first","last"]) (m:=bw) (lH G) (hr.mono (by decide)) fx.d_fewest tk2 (aA (aB 3) (aA (aB 13) (aA aE (aA aE aD))))))) (mH (qCl1 (k:=nj) (i:=16) (fi (by kernel_rfl)) nd rfl (fun A outer s H E f c' hr W tk2=>by
    have hu1:=ru1 hr
    have hu64:=cS hr
    have hu65:=cU hr
    exact (aN (ps:=["net","turn","first","last"]) (m:=bw) (lH G) (hr.mono (by decide)) fx.d_fewest tk2 (aA (aB 3) (aA (aB 4) (aA aE (aA aE aD))))))) (mH (qCl1 (k:=nj) (i:=17) (fi (by kernel_rfl)) nd rfl (fun A outer s H E f c' hr W tk2=>by
    have hu1:=ru1 hr
    have hu64:=cS hr
    have hu65:=cU hr
    exact (aN (ps:=["net","turn","first","last","cover"]) (m:=ak) (fN G) (hr.mono (by decide)) fx.d_shown_planes tk2 (aA (aB 3) (aA (aB 13) (aA aE (aA aE (aA aE aD)))))))) (mH (qCl1 (k:=nj) (i:=18) (fi (by kernel_rfl)) nd rfl (fun A outer s H E f c' hr W tk2=>by
    have hu1:=ru1 hr
    have hu64:=cS hr
    have hu65:=cU hr
    exact (aN (ps:=["net","turn","first","last","cover"]) (m:=ak) (fN G) (hr.mono (by decide)) fx.d_shown_planes tk2 (aA (aB 3) (aA (aB 4) (aA aE (aA aE (aA aE aD)))))))) cl_nil)))) (aw (aB 14)) (blkOk_by (by kernel_rfl)) (by decide) (fun _ _ _ _ _=>(aq (i:=15) nd rfl (by first|exact .inl rfl|exact .inr rfl) (by decide)))) (aQ o_rep (bn (aA b8 (aA b8 aD))) aE) (by with_unfolding_all rfl)) (aL (aW bA)) aZ)
    (AA [14] aZ)))))))))))))))))))
    (aL (aW bA))))
end
end DL
namespace DL
open PySem PySem.Spec PyProof.Rows L2 LamX
def iL (b:Bool) (l:List Int):D:=if b then .tpn (l.map .int) else .tup (l.map .int)
structure Leg where
  num:Int
  start:Str
  goal:Str
  out:Int
  long:Int
  db:Bool
  days:List Int
  fare:Int
  deriving Inhabited
def Leg.d (l:Leg):D:=.tup [.int l.num,.str l.start,.str l.goal,.int l.out,.int l.long,iL l.db l.days,.int l.fare]
abbrev aI:=Int × Int
def aF (r:aI):D:=.tup [.int r.1,.int r.2]
structure ly (names:List Str) (l:Leg):Prop where
  num:1≤l.num∧l.num≤9999
  s:l.start∈names
  g:l.goal∈names
  ne:l.start≠l.goal
  out:0≤l.out∧l.out<1440
  long:20≤l.long∧l.long≤900
  dne:l.days≠[]
  dlt:l.days.Pairwise (·<·)
  dbd:∀d∈l.days,0≤d∧d≤6
  fare:1≤l.fare∧l.fare≤100000
  odd:l.num≠99∧l.num≠9999
def six:List Str:=["aba","bcd","cad","dub","eli","fra"]
def bx (p:Str × Int):D:=.tup [.str p.1,.int p.2]
def cc (ps:List (Str × Int)) (ls:List Leg):D:=.tup [.tpn (ps.map bx),.tpn (ls.map Leg.d)]
structure NetOk (ps:List (Str × Int)) (ls:List Leg):Prop where
  names:∃n,2≤n∧n≤6∧ps.map (·.1)=six.take n
  ch:∀p∈ps,10≤p.2∧p.2≤300
  legs:∀l∈ls,ly (ps.map (·.1)) l
  nd:(ls.map (·.num)).Nodup
  ne:ls≠[]
  len:ls.length≤60
  few:ls.length≤28
  n99:∀l∈ls,l.num≠99
theorem rideEnc:Enc 1 aF:=by
  have:=Enc.pair Enc.int Enc.int
  exact this
theorem rides_tup:Enc 2 fun rs:List aI=>D.tup (rs.map aF):=rideEnc.tup
@[simp] theorem dayD_vt (b:Bool) (l:List Int):vt (iL b l)=.tup (l.map .int):=by cases b<;>rfl
@[simp] theorem pZ (S:Sto) (b:Bool) (l:List Int):view S (iL b l)=.tup (l.map .int):=by cases b<;>rfl
/-- a leg by its number -/
def b7 (ls:List Leg) (n:Int):Leg:=(ls.find? fun l=>l.num == n).getD default
def HasLeg (ls:List Leg) (n:Int):Prop:=∃l∈ls,l.num=n
theorem hV {ls:List Leg} {n:Int} (h:HasLeg ls n):(ls.find? fun l=>l.num == n)=some (b7 ls n):=by
  obtain ⟨l,hl,e⟩:=h
  unfold b7
  cases hf:ls.find? (fun l=>l.num == n) with
  | none=>exact absurd (List.find?_eq_none.mp hf l hl) (by simp[e])
  | some a=>rfl
theorem i4 {ls:List Leg} {n:Int} (h:HasLeg ls n):b7 ls n∈ls:=List.mem_of_find?_eq_some (hV h)
theorem pb {ls:List Leg} {n:Int} (h:HasLeg ls n):(b7 ls n).num=n:=by
  have:=List.find?_some (hV h)
  simpa using this
theorem HasLeg.of {ls:List Leg} {l:Leg} (h:l∈ls):HasLeg ls l.num:=⟨l,h,rfl⟩
theorem ii {ls:List Leg} (nd:(ls.map (·.num)).Nodup) {l:Leg} (h:l∈ls):b7 ls l.num=l:=by
  induction ls with
  | nil=>cases h
  | cons a ls ih=>
    unfold b7
    rw[List.find?_cons]
    rw[List.map_cons,List.nodup_cons] at nd
    by_cases e:a.num=l.num
    · rcases List.mem_cons.mp h with rfl|h
      · simp
      · exact absurd (List.mem_map.mpr ⟨l,h,e.symm⟩) nd.1
    · rcases List.mem_cons.mp h with rfl|h
      · exact absurd rfl e
      · have e':(a.num == l.num)=false:=by simpa using e
        rw[e']
        exact ih nd.2 h
/-- the legs with a number: just that one -/
theorem xI {ls:List Leg} (nd:(ls.map (·.num)).Nodup) {n:Int} (h:HasLeg ls n):ls.filter (fun l=>decide (l.num=n))=[b7 ls n]:=by
  obtain ⟨l,hl,rfl⟩:=h
  rw[ii nd hl]
  induction ls with
  | nil=>cases hl
  | cons a ls ih=>
    rw[List.map_cons,List.nodup_cons] at nd
    rcases List.mem_cons.mp hl with rfl|hl
    · rw[List.filter_cons_of_pos (by simp)]
      congr 1
      rw[List.filter_eq_nil_iff]
      intro b hb
      simp only[decide_eq_true_eq]
      exact fun z=>nd.1 (List.mem_map.mpr ⟨b,hb,z⟩)
    · rw[List.filter_cons_of_neg]
      · exact ih nd.2 hl
      · simp only[decide_eq_true_eq]
        exact fun z=>nd.1 (List.mem_map.mpr ⟨l,hl,z.symm⟩)
def ja (ls:List Leg) (r:aI):Str:=(b7 ls r.2).start
def oE (ls:List Leg) (r:aI):Str:=(b7 ls r.2).goal
def wO (ls:List Leg) (r:aI):Int:=(b7 ls r.2).long
def bB (ls:List Leg) (r:aI):Int:=r.1*1440+(b7 ls r.2).out
def kL (ls:List Leg) (r:aI):Int:=bB ls r+wO ls r
/-- what goes on a day -/
def rGoes (ls:List Leg) (r:aI):Prop:=0≤r.1∧r.1≤60∧HasLeg ls r.2∧r.1 % 7∈(b7 ls r.2).days
theorem rGoes.has {ls:List Leg} {r:aI} (h:rGoes ls r):HasLeg ls r.2:=h.2.2.1
structure NetAt (S:Sto) (l:Nat) (ps:List (Str × Int)) (ls:List Leg):Prop where
  ex:∃c g,S[l]?=some (.ins "Net" [("changes",.loc c),("legs",.loc g)])∧S[c]?=some (.dct false (ps.map fun p=>(.str p.1,.int p.2)))∧S[g]?=some (.dct false (ls.map fun x=>(.int x.num,x.d)))
/-- the same,told: its legs may be locked -/
structure qp (S:Sto) (l:Nat) (ls:List Leg):Prop where
  ex:∃c g,S[l]?=some (.ins "Net" [("changes",.loc c),("legs",.loc g)])∧dE S[g]?=some (false,ls.map fun x=>(.int x.num,x.d))
theorem NetAt.l {S:Sto} {l:Nat} {ps:List (Str × Int)} {ls:List Leg} (h:NetAt S l ps ls):qp S l ls:=by
  obtain ⟨c,g,h1,h2,h3⟩:=h.ex
  exact ⟨⟨c,g,h1,by rw[h3]; rfl⟩⟩
theorem ah {S:Sto} {l:Nat} {o:O} (h:S[l]?=some o) (T:Sto):(S++T)[l]?=some o:=by
  rw[List.getElem?_append_left (List.getElem?_eq_some_iff.mp h).1]; exact h
theorem NetAt.app {S:Sto} {l:Nat} {ps:List (Str × Int)} {ls:List Leg} (h:NetAt S l ps ls) (T:Sto):NetAt (S++T) l ps ls:=by
  obtain ⟨c,g,h1,h2,h3⟩:=h.ex
  exact ⟨c,g,ah h1 T,ah h2 T,ah h3 T⟩
end DL
set_option maxHeartbeats 1000000
namespace DL
open PySem PySem.Spec PyProof.Rows L2 LamX
/-- the state of the drawing -/
def stD (sc:List Int) (p m r:Int):O:=.lst [.ro (sc.map .int),.int p,.int m,.int r]
structure Dr (sc:List Int) (o:O):Prop where
  ex:∃p m r,o=stD sc p m r∧0≤p∧0≤r
theorem vL {sc:List Int} {p m r:Int} {T:Sto} {many:Int} (hm:0<many) (hm2:many<1073741824) (h0:0≤p) (hr:0≤r) :
    ∃v p' m' r',aH [.loc 0,.int many] (stD sc p m r::T)=.ok (.int v) (stD sc p' m' r'::T)∧0≤v∧v<many∧0≤p'∧0≤r':=by
  by_cases h:0<r
  · exact ⟨r % many,p,m,r / many,by simp[aH,fA,stD,fIx,h,hm,hm2,atI,ixN,eX,i8,qL,bY],Int.emod_nonneg _ (by omega),Int.emod_lt_of_pos _ hm,h0,Int.ediv_nonneg hr (by omega)⟩
  · have hr0:r=0:=by omega
    subst hr0
    by_cases hp:p+1≤sc.length
    · have hx:atI (sc.map D.int) p=some (.int (sc[p.toNat]'(by omega))):=by
        rw[ju h0 (by simp; omega)]
        simp[List.getElem?_map,List.getElem?_eq_getElem (show p.toNat<sc.length by omega)]
      generalize sc[p.toNat]'(by omega)=c at hx
      have x1:ixN 4 1=some 1:=rfl
      have x3:ixN 4 3=some 3:=rfl
      by_cases hc:1000000000000000000≤c
      · refine ⟨c % many,p+1,m,c / many,?_,Int.emod_nonneg _ (by omega),Int.emod_lt_of_pos _ hm,by omega,Int.ediv_nonneg (by omega) (by omega)⟩
        simp[aH,fA,stD,fIx,x1,x3,hx,hc,hm,hm2,eX,i8,qL,bY,cx,hp,cPow]
      · refine ⟨c % many,p+1,m,0,?_,Int.emod_nonneg _ (by omega),Int.emod_lt_of_pos _ hm,by omega,by omega⟩
        simp[aH,fA,stD,fIx,x1,x3,hx,hc,hm,hm2,eX,i8,qL,bY,cx,hp,cPow]
    · refine ⟨(m*48271+11) % 2147483647 / 7 % many,p+1,(m*48271+11) % 2147483647,0,?_,Int.emod_nonneg _ (by omega),Int.emod_lt_of_pos _ hm,by omega,by omega⟩
      simp[aH,fA,stD,fIx,hm,hm2,atI,ixN,eX,i8,qL,bY,cx,hp,cPow,bh]
theorem aY {sc:List Int} {o:O} {T:Sto} {many:Int} {Q:D→Sto→Prop} {E:XV→Sto→Prop} (d:Dr sc o) (hm:0<many) (hm2:many<1073741824) (k:∀(v:Int) (o':O),Dr sc o'→0≤v→v<many→Q (.int v) (o'::T)):Res.wp (aH [.loc 0,.int many] (o::T)) Q E:=by
  obtain ⟨p,m,r,rfl,h0,hr⟩:=d.ex
  obtain ⟨v,p',m',r',e,h1,h2,h3,h4⟩:=vL (sc:=sc) (m:=m) (T:=T) hm hm2 h0 hr
  rw[e,eh]
  exact k v _ ⟨p',m',r',rfl,h3,h4⟩ h1 h2
theorem zE {sc:List Int} {Q:D→Sto→Prop} {E:XV→Sto→Prop} (k:∀o,Dr sc o→Q (.loc 0) [o]):Res.wp (fC [.ro (sc.map .int)] []) Q E:=by
  unfold fC
  apply aX
  unfold lx
  simp
  refine dU (f:=D.int) sc (fun _ _ env S=>∃m x,env=[some (.ro (sc.map .int)),some (.int m),x]∧S=[]) rfl ⟨_,_,rfl,rfl⟩ ?_ ?_
  · rintro pre x rest env S _ ⟨m,y,rfl,rfl⟩
    refine ⟨_,rfl,?_⟩
    simp[bh,eX]
  · rintro env S ⟨m,x,rfl,rfl⟩
    simp
    exact k _ ⟨0,m,0,rfl,by omega,by omega⟩
end DL
namespace DL
open PySem PySem.Spec PyProof.Rows L2 LamX
theorem vM {xs:List D} {v:Int} (h0:0≤v) (h1:v<xs.length) (P:D→Prop) (h:∀d∈xs,P d):∃d,atI xs v=some d∧P d:=by
  obtain ⟨x,hx,e⟩:=uw h0 h1
  exact ⟨x,e,h x hx⟩
theorem gB {n:Nat} (h:n≤6):(six.take n).length=n∧(six.take n).Nodup:=by
  have:n=0∨n=1∨n=2∨n=3∨n=4∨n=5∨n=6:=by omega
  rcases this with rfl|rfl|rfl|rfl|rfl|rfl|rfl<;>decide +kernel
theorem gD (lo:Int) (n:Nat):kY lo n=(List.range n).map fun i=>D.int (lo+(i:Nat)):=rfl
theorem kM {n:Nat} {pre rest:List Nat} {k:Nat} (h:pre++k::rest=List.range n):k=pre.length∧k<n:=by
  have hl:=congrArg List.length h
  simp at hl
  have hk:(pre++k::rest)[pre.length]?=some k:=by simp
  rw[h,List.getElem?_range (by omega)] at hk
  cases hk
  exact ⟨rfl,by omega⟩
/-- legs that are being drawn: k turns of them behind one another -/
structure LegsUpTo (names:List Str) (top:Int) (n:Nat) (ls:List Leg):Prop where
  ok:∀l∈ls,ly names l
  nd:(ls.map (·.num)).Nodup
  lt:∀l∈ls,l.num<top
  len:ls.length≤n
  n99:∀l∈ls,l.num≠99
theorem LegsUpTo.add {names:List Str} {t t':Int} {n n':Nat} {ls:List Leg} {l:Leg} (h:LegsUpTo names t n ls) (hl:ly names l) (h1:t≤l.num) (h2:l.num<t') (hn:n+1≤n') (h99:l.num≠99):LegsUpTo names t' n' (ls++[l]) where
  ok:=fun x hx=>by
    rcases List.mem_append.mp hx with hx|hx
    · exact h.ok x hx
    · rw[List.mem_singleton.mp hx]; exact hl
  nd:=by
    rw[List.map_append,List.nodup_append]
    refine ⟨h.nd,by simp,fun a ha b hb=>?_⟩
    obtain ⟨x,hx,rfl⟩:=List.mem_map.mp ha
    obtain ⟨y,hy,rfl⟩:=List.mem_map.mp hb
    rw[List.mem_singleton.mp hy]
    have:=h.lt x hx
    omega
  lt:=fun x hx=>by
    rcases List.mem_append.mp hx with hx|hx
    · have:=h.lt x hx
      omega
    · rw[List.mem_singleton.mp hx]; exact h2
  len:=by rw[List.length_append]; have:=h.len; simp; omega
  n99:=fun x hx=>by
    rcases List.mem_append.mp hx with hx|hx
    · exact h.n99 x hx
    · rw[List.mem_singleton.mp hx]; exact h99
theorem LegsUpTo.mono {names:List Str} {t t':Int} {n n':Nat} {ls:List Leg} (h:LegsUpTo names t n ls) (h1:t≤t') (hn:n≤n'):LegsUpTo names t' n' ls:=
  ⟨h.ok,h.nd,fun l hl=>by have:=h.lt l hl; omega,by have:=h.len; omega,h.n99⟩
theorem LegsUpTo.nil (names:List Str) (t:Int) (n:Nat):LegsUpTo names t n []:=⟨nofun,.nil,nofun,by simp,nofun⟩
def nm (i:Int):Str:=six.getD i.toNat ""
theorem wP:six.length=6:=rfl
theorem qr {i:Int} (h0:0≤i) (h1:i<6):six[i.toNat]?=some (nm i):=by
  unfold nm
  rw[List.getD_eq_getElem?_getD,List.getElem?_eq_getElem (by rw[wP]; omega)]
  rfl
theorem wQ {m:Nat} {i:Int} (hm:m≤6) (h0:0≤i) (h1:i<m):atI ((six.take m).map D.str) i=some (.str (nm i)):=by
  rw[ju h0 (by rw[List.length_map,(gB hm).1]; exact h1),List.getElem?_map,List.getElem?_take_of_lt (by omega),qr h0 (by omega)]
  rfl
theorem ij {m:Nat} {i:Int} (hm:m≤6) (h0:0≤i) (h1:i<m):nm i∈six.take m:=by
  have:=qr h0 (by omega)
  rw[←List.getElem?_take_of_lt (l:=six) (j:=m) (by omega)] at this
  exact List.mem_of_getElem? this
theorem wR {i j:Int} (h0:0≤i) (h1:i<6) (h2:0≤j) (h3:j<6) (h:i≠j):nm i≠nm j:=fun e=>by
  have nd:six.Nodup:=by decide +kernel
  have a:=qr h0 h1
  have b:=qr h2 h3
  rw[←e,←a] at b
  have:=(List.getElem?_inj (by rw[wP]; omega) nd).mp b
  omega
theorem zF {k m:Int} (h:2≤m) (c:Int) (h1:1≤c) (h2:c<m):(k+c) % m≠k % m:=fun e=>by
  have h3:=Int.emod_emod_of_dvd k (Int.dvd_refl m)
  have h4:(k+c - k) % m=0:=by rw[Int.sub_emod,e]; simp
  rw[show k+c - k=c by omega,Int.emod_eq_of_lt (by omega) h2] at h4
  omega
/-- days that a leg may have -/
structure DaysOk (ds:List Int):Prop where
  ne:ds≠[]
  lt:ds.Pairwise (·<·)
  bd:∀d∈ds,0≤d∧d≤6
theorem DaysOk.one {v:Int} (h0:0≤v) (h1:v<7):DaysOk [v]:=⟨by simp,by simp,fun d hd=>by rw[List.mem_singleton.mp hd]; omega⟩
theorem tw {m:Nat} {t:Int} {n:Nat} {ps:List (Str × Int)} {ls:List Leg} (h:LegsUpTo (six.take m) t n ls) (hm:2≤m∧m≤6) (hn:n≤28) (ne:ls≠[]) (hp:ps.map (·.1)=six.take m) (hc:∀p∈ps,10≤p.2∧p.2≤300):NetOk ps ls:=
  ⟨⟨m,hm.1,hm.2,hp⟩,hc,by rw[hp]; exact h.ok,h.nd,ne,by have:=h.len; omega,Nat.le_trans h.len hn,h.n99⟩
/-- what stands as legs are drawn -/
structure LegI (sc:List Int) (T:Sto) (front:En) (names:List Str) (nt:Nat) (top:Int) (n:Nat) (env:En) (S:Sto):Prop where
  ex:∃o ls tail,Dr sc o∧tail.length=nt∧env=front++tail∧S=o::(T++[.lst (ls.map Leg.d)])∧LegsUpTo names top n ls∧(n≠0→ls≠[])
theorem len4 {α:Type} {l:List α} (h:l.length=4):∃a b c d,l=[a,b,c,d]:=by
  match l,h with
  | [a,b,c,d],_=>exact ⟨a,b,c,d,rfl⟩
theorem len9 {α:Type} {l:List α} (h:l.length=9):∃a b c d e f g i j,l=[a,b,c,d,e,f,g,i,j]:=by
  match l,h with
  | [a,b,c,d,e,f,g,i,j],_=>exact ⟨a,b,c,d,e,f,g,i,j,rfl⟩
/-- what stands as places are drawn -/
structure PlI (sc:List Int) (T:Sto) (pre:List Str) (acc:List D) (S:Sto):Prop where
  ex:∃o cs,Dr sc o∧S=o::T∧acc=(pre.zip cs).map bx∧cs.length=pre.length∧∀c∈cs,10≤c∧c≤300
theorem PlI.add {sc:List Int} {T:Sto} {pre:List Str} {cs:List Int} {o:O} {x:Str} {c:Int} (d:Dr sc o) (hc1:cs.length=pre.length) (hc2:∀c∈cs,10≤c∧c≤300) (hc:10≤c∧c≤300):PlI sc T (pre++[x]) ((pre.zip cs).map bx++[.tup [.str x,.int c]]) (o::T):=
  ⟨o,cs++[c],d,rfl,by rw[List.zip_append hc1.symm]; simp[bx],by simp[hc1],fun e he=>by
    rcases List.mem_append.mp he with he|he
    · exact hc2 e he
    · rw[List.mem_singleton.mp he]; exact hc⟩
/-- the shuttle's net -/
theorem vN {sc:List Int} {o:O} {T:Sto} {Q:D→Sto→Prop} {E:XV→Sto→Prop} (d:Dr sc o) (k:∀ps ls o' j,NetOk ps ls→Dr sc o'→Q (cc ps ls) (o'::(T++[j]))):Res.wp (dL [.loc 0] (o::T)) Q E:=by
  unfold dL
  apply aX
  unfold jG
  simp -dsimp
  refine aY d (by omega) (by omega) fun v o1 d1 a1 a2=>?_
  obtain ⟨n,rfl⟩:=Int.eq_ofNat_of_zero_le a1
  simp -dsimp
  rw[show fX [D.str (Str.ofString "aba"),D.str (Str.ofString "bcd"),D.str (Str.ofString "cad")] none (some (2+(n:Int)))=(six.take (2+n)).map D.str by
    rw[show (2+(n:Int))=((2+n:Nat):Int) by omega,qX]
    have:n=0∨n=1:=by omega
    rcases this with rfl|rfl<;>rfl]
  generalize hm:2+n=m
  have hm1:2≤m∧m≤6:=by omega
  obtain ⟨nn,hnn⟩:∃nn,nn=(six.take m).map D.str:=⟨_,rfl⟩
  rw[←hnn]
  have hln:(nn.length:Int)=m:=by rw[hnn,List.length_map,(gB hm1.2).1]
  refine aY d1 (by omega) (by omega) fun v1 o2 d2 b1 b2=>?_
  simp -dsimp
  refine aY d2 (by omega) (by omega) fun v2 o3 d3 c1 c2=>?_
  simp -dsimp
  refine aY d3 (by omega) (by omega) fun v3 o4 d4 e1 e2=>?_
  simp -dsimp
  refine aY d4 (by omega) (by omega) fun v4 o5 d5 f1 f2=>?_
  obtain ⟨dd,hdd,ds,rfl,hds⟩:=vM (xs:=[.tup [.int 0,.int 1,.int 2,.int 3,.int 4,.int 5,.int 6],.tup [.int 1,.int 2,.int 5],.tup [.int v3]]) (v:=v4) f1 f2 (fun d=>∃ds,d=iL false ds∧DaysOk ds) (by
    intro d hd
    simp only[List.mem_cons,List.not_mem_nil,or_false] at hd
    rcases hd with rfl|rfl|rfl
    · exact ⟨[0,1,2,3,4,5,6],rfl,by simp,by decide +kernel,by decide +kernel⟩
    · exact ⟨[1,2,5],rfl,by simp,by decide +kernel,by decide +kernel⟩
    · exact ⟨[v3],rfl,.one e1 e2⟩)
  simp -dsimp [hdd]
  refine aY d5 (by omega) (by omega) fun v5 o6 d6 g1 g2=>?_
  have hs:bU (3+v5)=true:=eI (by omega)
  simp -dsimp [hs,gD]
  refine dU (f:=fun i:Nat=>D.int i) (List.range (3+v5).toNat) (fun pre _=>LegI sc T [some (.loc 0),some (.lst nn),some (.loc (T.length+1)),some (.int (20+10*v1)),some (.int (60+10*v2)),some (iL false ds)] (six.take m) 4 (10+3*pre.length) (2*pre.length)) (by simp) ⟨o6,[],[none,none,none,none],d6,rfl,rfl,rfl,.nil _ _ _,fun z=>absurd rfl z⟩ ?_ ?_
  · rintro pre k rest env S hpre ⟨o',ls,tail,dd',ht,rfl,rfl,hL,_⟩
    obtain ⟨x6,x7,x8,x9,rfl⟩:=len4 ht
    obtain ⟨rfl,hk⟩:=kM hpre
    have hl1:=hL.len
    refine ⟨_,rfl,?_⟩
    have hk7:pre.length<7:=by omega
    have hm0:eX (pre.length:Int) m=true∧eX (pre.length+1:Int) m=true:=by simp[eX]; omega
    obtain ⟨i,hi⟩:∃i:Int,i=(pre.length:Int) % m:=⟨_,rfl⟩
    obtain ⟨j,hj⟩:∃j:Int,j=((pre.length:Int)+1) % m:=⟨_,rfl⟩
    have hi1:0≤i∧i<m:=by rw[hi]; exact ⟨Int.emod_nonneg _ (by omega),Int.emod_lt_of_pos _ (by omega)⟩
    have hj1:0≤j∧j<m:=by rw[hj]; exact ⟨Int.emod_nonneg _ (by omega),Int.emod_lt_of_pos _ (by omega)⟩
    have hij:i≠j:=by rw[hi,hj]; exact fun z=>zF (by omega) 1 (by omega) (by omega) z.symm
    have ei:atI nn i=some (.str (nm i)):=by rw[hnn]; exact wQ hm1.2 hi1.1 hi1.2
    have ej:atI nn j=some (.str (nm j)):=by rw[hnn]; exact wQ hm1.2 hj1.1 hj1.2
    have hgk:bh (60+10*v2) pre.length=true:=uz (by omega)
    have hll:ls.length<1000000:=by omega
    simp -dsimp [hln,hm0,←hi,←hj,ei,ej,hgk,bX,bD,hll]
    have hd9:DaysOk ds:=hds
    obtain ⟨A,hA⟩:∃A:Leg,A=⟨10+3*pre.length,nm i,nm j,300+(60+10*v2)*pre.length,20+10*v1,false,ds,100+pre.length⟩:=⟨_,rfl⟩
    have ok1:ly (six.take m) ⟨10+3*pre.length,nm i,nm j,300+(60+10*v2)*pre.length,20+10*v1,false,ds,100+pre.length⟩:=by
      have:(60+10*v2)*(pre.length:Int)≤150*6:=Int.mul_le_mul (by omega) (by omega) (by omega) (by omega)
      have:0≤(60+10*v2)*(pre.length:Int):=Int.mul_nonneg (by omega) (by omega)
      exact ⟨⟨by simp; omega,by simp; omega⟩,ij hm1.2 hi1.1 hi1.2,ij hm1.2 hj1.1 hj1.2,wR hi1.1 (by omega) hj1.1 (by omega) hij,⟨by simp; omega,by simp; omega⟩,⟨by simp; omega,by simp; omega⟩,hds.ne,hds.lt,hds.bd,⟨by simp; omega,by simp; omega⟩,⟨by simp only; omega,by simp only; omega⟩⟩
    rw[←hA] at ok1
    have hL1:=LegsUpTo.add (t':=11+3*pre.length) (n':=2*pre.length+1) hL ok1 (by simp[hA]) (by simp[hA]) (by omega) (by simp[hA]; omega)
    refine aY dd' (by omega) (by omega) fun w1 o7 d7 p1 p2=>?_
    simp -dsimp
    refine qW (fun hw=>?_) (fun hw=>?_)
    · simp -dsimp [bX,hgk]
      refine aY d7 (by omega) (by omega) fun w2 o8 d8 q1 q2=>?_
      have hll1:ls.length+1<1000000:=by omega
      simp -dsimp [bD,hll1]
      obtain ⟨B,hB⟩:∃B:Leg,B=⟨11+3*pre.length,nm j,nm i,300+(60+10*v2)*pre.length,20+10*v1+10*w2,false,ds,77⟩:=⟨_,rfl⟩
      have ok2:ly (six.take m) ⟨11+3*pre.length,nm j,nm i,300+(60+10*v2)*pre.length,20+10*v1+10*w2,false,ds,77⟩:=by
        have:(60+10*v2)*(pre.length:Int)≤150*6:=Int.mul_le_mul (by omega) (by omega) (by omega) (by omega)
        have:0≤(60+10*v2)*(pre.length:Int):=Int.mul_nonneg (by omega) (by omega)
        exact ⟨⟨by simp; omega,by simp; omega⟩,ij hm1.2 hj1.1 hj1.2,ij hm1.2 hi1.1 hi1.2,wR hj1.1 (by omega) hi1.1 (by omega) hij.symm,⟨by simp; omega,by simp; omega⟩,⟨by simp; omega,by simp; omega⟩,hds.ne,hds.lt,hds.bd,⟨by simp,by simp⟩,⟨by simp only; omega,by simp only; omega⟩⟩
      rw[←hB] at ok2
      have hL2:=LegsUpTo.add (t':=10+3*(pre.length+1:Nat)) (n':=2*(pre.length+1)) hL1 ok2 (by simp[hB]) (by simp[hB]; omega) (by omega) (by simp[hB]; omega)
      exact ⟨o8,ls++[A]++[B],[_,_,_,_],d8,rfl,rfl,by simp[hA,hB,Leg.d],by simpa using hL2,by simp⟩
    · simp -dsimp
      exact ⟨o7,ls++[A],[_,_,_,_],d7,rfl,rfl,by simp[hA,Leg.d],by simpa using hL1.mono (t':=10+3*(pre.length+1:Nat)) (n':=2*(pre.length+1)) (by omega) (by omega),by simp⟩
  · rintro env S ⟨o',ls,tail,dd',ht,rfl,rfl,hL,hne⟩
    obtain ⟨x6,x7,x8,x9,rfl⟩:=len4 ht
    simp -dsimp
    have hn2:nn.length≤1000000:=by omega
    refine nP (f:=D.str) (six.take m) (fun pre _=>PlI sc (T++[.lst (ls.map Leg.d)]) pre) hnn ⟨o',[],dd',rfl,rfl,rfl,nofun⟩ ?_ ?_
    · rintro pre x rest acc S hp ⟨o1,cs,dd1,rfl,rfl,hc1,hc2⟩
      refine ⟨_,rfl,?_⟩
      simp -dsimp
      refine aY dd1 (by omega) (by omega) fun w2 o8 d8 q1 q2=>?_
      simp -dsimp
      have:=congrArg List.length hp
      simp[(gB hm1.2).1] at this
      exact ⟨by omega,.add d8 hc1 hc2 (by omega)⟩
    · rintro acc S ⟨o1,cs,dd1,rfl,rfl,hc1,hc2⟩
      simp -dsimp [nS]
      have hpos:0<(3+v5).toNat:=by omega
      refine k ((six.take m).zip cs) ls o1 (.lst (ls.map Leg.d)) (tw hL hm1 (by simp; omega) (hne fun z=>?_) ?_ ?_) dd1
      · simp at z
        omega
      · rw[List.map_fst_zip (by omega)]
      · intro p hp
        exact hc2 _ (List.of_mem_zip hp).2
/-- days drawn one by one -/
structure DyI (sc:List Int) (T:Sto) (k:Nat) (acc:List D) (S:Sto):Prop where
  ex:∃(o:O) (ds:List Int),Dr sc o∧S=o::T∧acc=ds.map D.int∧ds.Pairwise (·<·)∧(∀d∈ds,0≤d∧d<k)∧ds.length≤k
/-- days drawn -/
structure DyR (sc:List Int) (T:Sto) (d:D) (S:Sto):Prop where
  ex:∃o db ds,d=iL db ds∧S=o::T∧Dr sc o∧DaysOk ds
/-- the net that is drawn -/
theorem wp_net {sc:List Int} {o:O} {T:Sto} {Q:D→Sto→Prop} {E:XV→Sto→Prop} (d:Dr sc o) (k:∀ps ls o' j,NetOk ps ls→Dr sc o'→Q (cc ps ls) (o'::(T++[j]))):Res.wp (gt [.loc 0] (o::T)) Q E:=by
  unfold gt
  apply aX
  unfold pX
  simp -dsimp
  refine aY d (by omega) (by omega) fun v o1 d1 a1 a2=>?_
  simp -dsimp
  refine qW (fun hv=>?_) (fun hv=>?_)
  · simp -dsimp
    exact vN d1 fun ps ls o' j h dd=>by rw[wE]; exact k ps ls o' j h dd
  simp -dsimp
  clear a1 a2 hv v d o
  refine aY d1 (by omega) (by omega) fun v o2 d2 a1 a2=>?_
  obtain ⟨n,rfl⟩:=Int.eq_ofNat_of_zero_le a1
  simp -dsimp
  rw[show fX [D.str (Str.ofString "aba"),D.str (Str.ofString "bcd"),D.str (Str.ofString "cad"),D.str (Str.ofString "dub"),D.str (Str.ofString "eli"),D.str (Str.ofString "fra")] none (some (2+(n:Int)))=(six.take (2+n)).map D.str by
    rw[show (2+(n:Int))=((2+n:Nat):Int) by omega,qX,List.map_take]; rfl]
  generalize hm:2+n=m
  have hm1:2≤m∧m≤6:=by omega
  obtain ⟨nn,hnn⟩:∃nn,nn=(six.take m).map D.str:=⟨_,rfl⟩
  rw[←hnn]
  have hln:(nn.length:Int)=m:=by rw[hnn,List.length_map,(gB hm1.2).1]
  refine nP (f:=D.str) (six.take m) (fun pre _=>PlI sc T pre) hnn ⟨o2,[],d2,rfl,rfl,rfl,nofun⟩ ?_ ?_
  · rintro pre x rest acc S hp ⟨o3,cs,d3,rfl,rfl,hc1,hc2⟩
    refine ⟨_,rfl,?_⟩
    simp -dsimp
    refine aY d3 (by omega) (by omega) fun w1 o4 d4 p1 p2=>?_
    simp -dsimp
    refine aY d4 (by omega) (by omega) fun w2 o5 d5 q1 q2=>?_
    obtain ⟨dd,hdd,c,rfl,hc⟩:=vM (xs:=[.int 30,.int 10,.int 60,.int (10+w1)]) (v:=w2) q1 q2 (fun d=>∃c,d=.int c∧10≤c∧c≤300) (by
      intro d hd
      simp only[List.mem_cons,List.not_mem_nil,or_false] at hd
      rcases hd with rfl|rfl|rfl|rfl
      · exact ⟨_,rfl,by omega,by omega⟩
      · exact ⟨_,rfl,by omega,by omega⟩
      · exact ⟨_,rfl,by omega,by omega⟩
      · exact ⟨_,rfl,by omega,by omega⟩)
    simp -dsimp [hdd]
    have:=congrArg List.length hp
    simp[(gB hm1.2).1] at this
    exact ⟨by omega,.add d5 hc1 hc2 hc⟩
  rintro acc S ⟨o3,cs,d3,rfl,rfl,hc1,hc2⟩
  have hps1:((six.take m).zip cs).map (·.1)=six.take m:=List.map_fst_zip (by omega)
  have hps2:∀p∈(six.take m).zip cs,10≤p.2∧p.2≤300:=fun p hp=>hc2 _ (List.of_mem_zip hp).2
  generalize (six.take m).zip cs=ps at hps1 hps2
  clear hc1 hc2 cs
  simp -dsimp
  refine aY d3 (by omega) (by omega) fun w1 o4 d4 p1 p2=>?_
  obtain ⟨dd,hdd,w2,rfl,hw2⟩:=vM (xs:=[.int 6,.int 13]) (v:=w1) p1 p2 (fun d=>∃c,d=.int c∧6≤c∧c≤13) (by
      intro d hd
      simp only[List.mem_cons,List.not_mem_nil,or_false] at hd
      rcases hd with rfl|rfl
      · exact ⟨_,rfl,by omega,by omega⟩
      · exact ⟨_,rfl,by omega,by omega⟩)
  simp -dsimp [hdd]
  refine aY d4 (by omega) (by omega) fun w3 o5 d5 q1 q2=>?_
  have hs:bU (2+w3)=true:=eI (by omega)
  simp -dsimp [hs,gD]
  refine dU (f:=fun i:Nat=>D.int i) (List.range (2+w3).toNat) (fun pre _=>LegI sc T [some (.loc 0),some (.lst nn),some (.tpn (ps.map bx)),some (.loc (T.length+1))] (six.take m) 9 (100+7*pre.length) (2*pre.length)) (by simp) ⟨o5,[],[none,none,none,none,none,none,none,none,none],d5,rfl,rfl,rfl,.nil _ _ _,fun z=>absurd rfl z⟩ ?_ ?_
  · rintro pre k rest env S hpre ⟨o6,ls,tail,d6,ht,rfl,rfl,hL,_⟩
    obtain ⟨x4,x5,x6,x7,x8,x9,x10,x11,x12,rfl⟩:=len9 ht
    obtain ⟨rfl,hk⟩:=kM hpre
    have hl1:=hL.len
    refine ⟨_,rfl,?_⟩
    have hk7:pre.length<14:=by omega
    simp -dsimp [hln]
    refine aY d6 (by omega) (by omega) fun i o7 d7 i1 i2=>?_
    simp -dsimp [hln]
    refine aY d7 (by omega) (by omega) fun w4 o8 d8 r1 r2=>?_
    have hcm:eX (i+1+w4) m=true:=by simp[eX]; omega
    obtain ⟨j,hj⟩:∃j:Int,j=(i+1+w4) % m:=⟨_,rfl⟩
    have hj1:0≤j∧j<m:=by rw[hj]; exact ⟨Int.emod_nonneg _ (by omega),Int.emod_lt_of_pos _ (by omega)⟩
    have hij:i≠j:=by
      rw[hj]
      intro z
      refine zF (k:=i) (m:=m) (by omega) (1+w4) (by omega) (by omega) ?_
      rw[Int.emod_eq_of_lt i1 (by omega),←Int.add_assoc]; exact z.symm
    have ei:atI nn i=some (.str (nm i)):=by rw[hnn]; exact wQ hm1.2 i1 i2
    have ej:atI nn j=some (.str (nm j)):=by rw[hnn]; exact wQ hm1.2 hj1.1 hj1.2
    simp -dsimp [hln,hcm,←hj]
    clear hcm hj w4 r1 r2
    refine aY d8 (by omega) (by omega) fun w4 o9 d9 s1 s2=>?_
    simp -dsimp
    refine aY d9 (by omega) (by omega) fun w5 o10 d10 s3 s4=>?_
    simp -dsimp
    refine aY d10 (by omega) (by omega) fun w6 o11 d11 s5 s6=>?_
    simp -dsimp
    refine aY d11 (by omega) (by omega) fun w7 o12 d12 s7 s8=>?_
    obtain ⟨dd,hdd,out,rfl,hout⟩:=vM (xs:=[.int (60*w4),.int (300+10*w5),.int w6]) (v:=w7) s7 s8 (fun d=>∃c,d=.int c∧0≤c∧c<1440) (by
      intro d hd
      simp only[List.mem_cons,List.not_mem_nil,or_false] at hd
      rcases hd with rfl|rfl|rfl
      · exact ⟨_,rfl,by omega,by omega⟩
      · exact ⟨_,rfl,by omega,by omega⟩
      · exact ⟨_,rfl,by omega,by omega⟩)
    simp -dsimp [hdd]
    clear hdd w4 s1 s2 w5 s3 s4 w6 s5 s6 w7 s7 s8 d1 d2 d3 d4 d5 d6 d7 d8 d9 d10 d11
    refine aY d12 (by omega) (by omega) fun w4 o13 d13 s1 s2=>?_
    simp -dsimp
    refine aY d13 (by omega) (by omega) fun w5 o14 d14 s3 s4=>?_
    simp -dsimp
    refine aY d14 (by omega) (by omega) fun w6 o15 d15 s5 s6=>?_
    obtain ⟨dd,hdd,long,rfl,hlong⟩:=vM (xs:=[.int 60,.int (20+10*w4),.int (20+w5)]) (v:=w6 / 4) (by omega) (by simp; omega) (fun d=>∃c,d=.int c∧20≤c∧c≤900) (by
      intro d hd
      simp only[List.mem_cons,List.not_mem_nil,or_false] at hd
      rcases hd with rfl|rfl|rfl
      · exact ⟨_,rfl,by omega,by omega⟩
      · exact ⟨_,rfl,by omega,by omega⟩
      · exact ⟨_,rfl,by omega,by omega⟩)
    simp -dsimp [hdd,gD]
    clear hdd w4 s1 s2 w5 s3 s4 w6 s5 s6
    refine nP (f:=fun i:Nat=>D.int i) (List.range 7) (fun pre2 _=>DyI sc (T++[.lst (ls.map Leg.d)]) pre2.length) (by rfl) ⟨o15,[],d15,rfl,rfl,.nil,nofun,by simp⟩ ?_ ?_
    · rintro pre2 k2 rest2 acc2 S2 hp2 ⟨p1,ds,e1,rfl,rfl,y1,y2,y3⟩
      obtain ⟨rfl,hk2⟩:=kM hp2
      refine ⟨_,rfl,?_⟩
      simp -dsimp
      refine aY e1 (by omega) (by omega) fun w4 p2 e2 s1 s2=>?_
      by_cases hw4:0<w4
      · simp -dsimp [hw4]
        refine ⟨by omega,p2,ds++[(pre2.length:Int)],e2,rfl,by simp,?_,?_,by simp; omega⟩
        · rw[List.pairwise_append]
          exact ⟨y1,by simp,fun a ha b hb=>by rw[List.mem_singleton.mp hb]; exact (y2 a ha).2⟩
        · intro d hd
          rcases List.mem_append.mp hd with hd|hd
          · have:=y2 d hd; simp; omega
          · rw[List.mem_singleton.mp hd]; simp; omega
      · simp -dsimp [hw4]
        exact ⟨p2,ds,e2,rfl,rfl,y1,fun d hd=>by have:=y2 d hd; omega,by omega⟩
    rintro acc2 S2 ⟨p1,ds0,e1,rfl,rfl,y1,y2,y3⟩
    simp at y2 y3
    simp -dsimp
    refine dR (Q:=DyR sc (T++[.lst (ls.map Leg.d)])) ?_ ?_
    · cases ds0 with
      | nil=>
        simp -dsimp
        refine aY e1 (by omega) (by omega) fun w4 p2 e2 s1 s2=>?_
        simp -dsimp
        exact ⟨p2,false,[w4],rfl,rfl,e2,.one s1 s2⟩
      | cons a b=>
        simp -dsimp
        exact ⟨p1,true,a::b,rfl,rfl,e1,by simp,y1,fun d hd=>by have:=y2 d hd; omega⟩
    clear y1 y2 y3 e1 p1
    rintro dd S2 ⟨p2,db,ds,rfl,rfl,e2,hds⟩
    simp -dsimp
    refine aY e2 (by omega) (by omega) fun w4 o13 d13 s1 s2=>?_
    simp -dsimp
    refine aY d13 (by omega) (by omega) fun w5 o14 d14 s3 s4=>?_
    simp -dsimp
    refine aY d14 (by omega) (by omega) fun w6 o15 d15 s5 s6=>?_
    obtain ⟨dd,hdd,fare,rfl,hfare⟩:=vM (xs:=[.int 100,.int (1+w4),.int (1+w5)]) (v:=w6) (by omega) (by simp; omega) (fun d=>∃c,d=.int c∧1≤c∧c≤100000) (by
      intro d hd
      simp only[List.mem_cons,List.not_mem_nil,or_false] at hd
      rcases hd with rfl|rfl|rfl
      · exact ⟨_,rfl,by omega,by omega⟩
      · exact ⟨_,rfl,by omega,by omega⟩
      · exact ⟨_,rfl,by omega,by omega⟩)
    have hll:ls.length<1000000:=by omega
    simp -dsimp [hdd,ei,ej,bX,bD,hll]
    clear hdd w4 s1 s2 w5 s3 s4 w6 s5 s6 e2 d12 d13 d14
    refine aY d15 (by omega) (by omega) fun w4 o16 d16 s1 s2=>?_
    obtain ⟨A,hA⟩:∃A:Leg,A=⟨100+7*pre.length,nm i,nm j,out,long,db,ds,fare⟩:=⟨_,rfl⟩
    have ok1:ly (six.take m) A:=by
      rw[hA]
      exact ⟨⟨by simp; omega,by simp; omega⟩,ij hm1.2 i1 i2,ij hm1.2 hj1.1 hj1.2,wR i1 (by omega) hj1.1 (by omega) hij,hout,hlong,hds.ne,hds.lt,hds.bd,hfare,⟨by simp only; omega,by simp only; omega⟩⟩
    have hL1:=LegsUpTo.add (t':=103+7*pre.length) (n':=2*pre.length+1) hL ok1 (by simp[hA]) (by simp[hA]) (by omega) (by simp[hA]; omega)
    simp -dsimp
    refine qW (fun hw=>?_) (fun hw=>?_)
    · have hll1:ls.length+1<1000000:=by omega
      simp -dsimp [ei,ej,bX,bD,hll1]
      obtain ⟨B,hB⟩:∃B:Leg,B=⟨103+7*pre.length,nm j,nm i,(out+long+60) % 1440,long,db,ds,fare⟩:=⟨_,rfl⟩
      have ok2:ly (six.take m) B:=by
        rw[hB]
        exact ⟨⟨by simp; omega,by simp; omega⟩,ij hm1.2 hj1.1 hj1.2,ij hm1.2 i1 i2,wR hj1.1 (by omega) i1 (by omega) hij.symm,⟨Int.emod_nonneg _ (by omega),Int.emod_lt_of_pos _ (by omega)⟩,hlong,hds.ne,hds.lt,hds.bd,hfare,⟨by simp only; omega,by simp only; omega⟩⟩
      have hL2:=LegsUpTo.add (t':=100+7*(pre.length+1:Nat)) (n':=2*(pre.length+1)) hL1 ok2 (by simp[hB]) (by simp[hB]; omega) (by omega) (by simp[hB]; omega)
      exact ⟨o16,ls++[A]++[B],[_,_,_,_,_,_,_,_,_],d16,rfl,rfl,by simp[hA,hB,Leg.d],by simpa using hL2,by simp⟩
    · simp -dsimp
      exact ⟨o16,ls++[A],[_,_,_,_,_,_,_,_,_],d16,rfl,rfl,by simp[hA,Leg.d],by simpa using hL1.mono (t':=100+7*(pre.length+1:Nat)) (n':=2*(pre.length+1)) (by omega) (by omega),by simp⟩
  · rintro env S ⟨o6,ls,tail,d6,ht,rfl,rfl,hL,hne⟩
    obtain ⟨x4,x5,x6,x7,x8,x9,x10,x11,x12,rfl⟩:=len9 ht
    have hne:ls≠[]:=hne (by simp; omega)
    simp -dsimp
    refine aY d6 (by omega) (by omega) fun w4 o16 d16 s1 s2=>?_
    have hok:=tw hL hm1 (by simp; omega) hne hps1 hps2
    by_cases hw:w4=0
    · simp -dsimp [hw,nS]
      exact k ps ls o16 (.lst (ls.map Leg.d)) hok d16
    · simp -dsimp [hw,nS]
      have:=k ps ls.reverse o16 (.lst (ls.map Leg.d)) ⟨hok.names,hok.ch,fun l hl=>hok.legs l (List.mem_reverse.mp hl),by rw[List.map_reverse]; exact (List.reverse_perm _).symm.nodup hok.nd,by simpa using hne,by simpa using hok.len,by simpa using hok.few,fun l hl=>hok.n99 l (List.mem_reverse.mp hl)⟩ d16
      unfold cc at this
      rw[List.map_reverse] at this
      exact this
end DL
namespace DL
open PySem PySem.Spec PyProof.Rows L2 LamX
theorem af {α:Type} {r:Res α} {v:α} {S0:Sto} (h:Res.wp r (fun a S'=>a=v∧S'=S0) NoE):r=.ok v S0:=by
  cases r with
  | ok a S=>rw[eh] at h; obtain ⟨rfl,rfl⟩:=h; rfl
  | exc e S=>simp at h
  | stuck=>simp at h
theorem pc {α:Type} {r:Res α} {v:XV} {S0:Sto} (h:Res.wp r (fun _ _=>False) (fun a S'=>a=v∧S'=S0)):r=.exc v S0:=by
  cases r with
  | exc a S=>rw[qV] at h; obtain ⟨rfl,rfl⟩:=h; rfl
  | ok e S=>simp at h
  | stuck=>simp at h
theorem av {τ:Type} {g:MG} {tc:MT} {m:ME} {w:En} {f:τ→D} {ds:List D} {S:Sto} {Q:List D→Sto→Prop} {E:XV→Sto→Prop} (xs:List τ) (p:τ→Bool) (v:τ→D) (e:ds=xs.map f) (hl:xs.length≤1000000)
    (hx:∀x∈xs,∃e,g (f x) w S=some (e,S)∧tc e S=.ok (p x) S∧(p x=true→m e S=.ok (v x) S)) (q:Q ((xs.filter p).map v) S):Res.wp (c8 g tc m w ds [] S) Q E:=by
  rw[e,uv xs p v hl hx,eh]; exact q
theorem c5 {α:Type} (xs:List α):xs.filter (fun _=>true)=xs:=List.filter_eq_self.mpr fun _ _=>rfl
@[simp] theorem fAll_map {τ:Type} (S:Sto) (xs:List τ) (g:τ→Bool):kh S [.lst (xs.map fun x=>.bool (g x))]=some (.bool (xs.all g)):=by
  have:=jW S (xs.map g)
  rw[List.map_map] at this
  rw[show (xs.map fun x=>D.bool (g x))=xs.map (D.bool∘g) from rfl,this,List.all_map]
  rfl
@[simp] theorem cut_1 {α:Type} (xs:List α):fX xs (some 1) none=xs.tail:=by
  rw[show (1:Int)=((1:Nat):Int) from rfl,yd,List.drop_one]
theorem tx {τ:Type} (f:τ→D) (xs:List τ):fG (xs.map f) (xs.map f).tail=(xs.zip xs.tail).map fun p=>D.tup [f p.1,f p.2]:=by
  rw[←List.map_tail,zip_map]
theorem lt_zip {xs:List Int} (h:xs.Pairwise (·<·)):∀p∈xs.zip xs.tail,p.1<p.2:=by
  induction xs with
  | nil=>simp
  | cons a xs ih=>
    cases xs with
    | nil=>simp
    | cons b xs=>
      intro p hp
      rw[List.tail_cons,List.zip_cons_cons] at hp
      rw[List.pairwise_cons] at h
      rcases List.mem_cons.mp hp with rfl|hp
      · exact h.1 b List.mem_cons_self
      · exact ih h.2 p hp
/-- a whole number between two -/
def dC (x:D) (a b:Int):Bool:=match x with
  | .int i=>decide (a≤i)&&decide (i≤b)
  | _=>false
@[simp] theorem known_int:eT "int"=true:=rfl
@[simp] theorem known_bool:eT "bool"=true:=rfl
@[simp] theorem known_str:eT "str"=true:=rfl
@[simp] theorem BI:eT "tuple"=true:=rfl
@[simp] theorem known_list:eT "list"=true:=rfl
@[simp] theorem known_dict:eT "dict"=true:=rfl
@[simp] theorem tyo_int (S:Sto) (i:Int):g4 S (.int i)=some "int":=rfl
@[simp] theorem tyo_bool (S:Sto) (i:Bool):g4 S (.bool i)=some "bool":=rfl
@[simp] theorem tyo_str (S:Sto) (i:Str):g4 S (.str i)=some "str":=rfl
@[simp] theorem tyo_tup (S:Sto) (i:List D):g4 S (.tup i)=some "tuple":=rfl
@[simp] theorem tyo_tpn (S:Sto) (i:List D):g4 S (.tpn i)=some "tuple":=rfl
@[simp] theorem tyo_lst (S:Sto) (i:List D):g4 S (.lst i)=some "list":=rfl
@[simp] theorem tyo_none (S:Sto):g4 S .none=some "NoneType":=rfl
@[simp] theorem tyo_day (S:Sto) (b:Bool) (l:List Int):g4 S (iL b l)=some "tuple":=by cases b<;>rfl
@[simp] theorem isTy_at (a b:String):isTy a b=(a == b||(a == "bool"&&b == "int")):=rfl
theorem gE {S:Sto} {x:D} {t:String} (a b:Int) (h:g4 S x=some t):aP [x,.int a,.int b] S=.ok (.bool (dC x a b)) S:=by
  have st:∀t:String,t≠"int"→t≠"bool"→g4 S x=some t→dC x a b=false→aP [x,.int a,.int b] S=.ok (.bool (dC x a b)) S:=by
    intro t h1 h2 h3 h4
    simp[aP,e9,cG,h3,h1,h2,h4]
  cases x with
  | int i=>
    by_cases h1:a≤i<;>by_cases h2:i≤b<;>simp[aP,e9,cG,dC,h1,h2]
  | bool i=>simp[aP,e9,cG,dC]
  | none=>cases h; exact st _ (by decide) (by decide) rfl rfl
  | str=>cases h; exact st _ (by decide) (by decide) rfl rfl
  | tup=>cases h; exact st _ (by decide) (by decide) rfl rfl
  | tpn=>cases h; exact st _ (by decide) (by decide) rfl rfl
  | lst=>cases h; exact st _ (by decide) (by decide) rfl rfl
  | loc l=>
    simp only[g4] at h
    refine st t ?_ ?_ (by simp only[g4]; exact h) rfl
    · rintro rfl; split at h<;>simp at h
    · rintro rfl; split at h<;>simp at h
  | ty=>cases h
  | ro=>cases h
  | glo=>cases h
  | adr=>cases h
  | clo=>cases h
  | exn=>cases h
@[simp] theorem num_int (S:Sto) (i a b:Int):aP [.int i,.int a,.int b] S=.ok (.bool (decide (a≤i)&&decide (i≤b))) S:=gE a b rfl
theorem Af {S:Sto} {b:Bool} {ds:List Int} (h:DaysOk ds) (hl:ds.length≤1000000):f7 [iL b ds] S=.ok (.bool true) S:=by
  have hne:∃a l,ds=a::l:=by
    cases ds with
    | nil=>exact absurd rfl h.ne
    | cons a l=>exact ⟨a,l,rfl⟩
  have hp:c4 (ds.map D.int) []=false:=by
    obtain ⟨a,l,rfl⟩:=hne
    simp
  have h1:bO S (iL b ds)=some (.items (ds.map D.int)):=by cases b<;>simp[iL]
  have h2:dok 60 (iL b ds)=true:=by
    have:=Enc.int.all
    cases b<;>simp[iL]
  have h3:peq (.tup (ds.map D.int)) (.tup [])=false:=by simp[hp]
  have h32:dok 60 (.tup (ds.map D.int))=true:=by simp
  obtain ⟨d',e',hd'⟩:=ux (d:=iL b ds) (xs:=ds.map D.int) (by cases b<;>simp[iL]) (some 1) none
  have h4:view0 S (iL b ds)=iL b ds:=by cases b<;>rfl
  have h5:vt d'=.tup (ds.map D.int).tail:=by rw[←cut_1]; rcases hd' with rfl|rfl<;>rfl
  apply af
  unfold f7
  apply aX
  unfold ny
  simp -dsimp [cG,h2,h3,h1,hp,e',h4,h5,tx]
  refine av (f:=D.int) ds (fun _=>true) (fun i=>.bool (decide (0≤i)&&decide (i≤6))) rfl hl (fun x hx=>⟨_,rfl,rfl,fun _=>by simp⟩) ?_
  rw[c5]
  have ha:(ds.all fun i=>decide (0≤i)&&decide (i≤6))=true:=by
    rw[List.all_eq_true]
    intro x hx
    simp[h.bd x hx]
  simp -dsimp [ha,e',h4,h5,tx]
  refine av (f:=fun p:Int × Int=>D.tup [.int p.1,.int p.2]) (ds.zip ds.tail) (fun _=>true) (fun p=>.bool (decide (p.1<p.2))) rfl (by simp; omega) (fun x hx=>⟨_,rfl,rfl,fun _=>by simp⟩) ?_
  rw[c5]
  have hb:((ds.zip ds.tail).all fun p=>decide (p.1<p.2))=true:=by
    rw[List.all_eq_true]
    intro p hp
    simp[lt_zip h.lt p hp]
  simp -dsimp [hb]
end DL
namespace DL
open PySem PySem.Spec PyProof.Rows L2 LamX
theorem pd {τ:Type} {ps:List τ} {pre rest:List (τ × Nat)} {x:τ × Nat} (h:pre++x::rest=ps.zipIdx):x.2=pre.length∧ps=pre.map (·.1)++x.1::rest.map (·.1):=by
  have h1:=congrArg (fun l=>l.map (·.1)) h
  have h2:=congrArg (fun l=>l[pre.length]?) h
  simp at h1 h2
  refine ⟨?_,h1.symm⟩
  obtain ⟨a,ha,e⟩:=Option.map_eq_some_iff.mp h2.symm
  rw[←e]
def mJ:List Nat:=(("abcdefghijklmnopqrstuvwxyz":Str)).cps.toList
/-- a text of so many mJ -/
def kN (x:Str) (a b:Int):Bool:=(decide (a≤x.length)&&decide ((x.length:Int)≤b))&&x.cps.toList.all (fun c=>decide (c∈mJ))
theorem Ag {S:Sto} {x:Str} (a b:Int) (hx:x.length≤1000000):gp [.str x,.int a,.int b] S=.ok (.bool (kN x a b)) S:=by
  have hl:cx S [.str x]=some (.int x.length):=by simp[cx,hx]
  have hi:bO S (.str x)=some (.items (x.cps.toList.map fun c=>D.str ⟨#[c]⟩)):=by simp[bO,hx,iS]
  apply af
  unfold gp
  apply aX
  unfold pV
  by_cases h1:a≤x.length
  · by_cases h2:(x.length:Int)≤b
    · simp -dsimp [cG,hl,h1,h2,hi]
      refine av (f:=fun c=>D.str ⟨#[c]⟩) x.cps.toList (fun _=>true) (fun c=>.bool (decide (c∈mJ))) rfl (by simpa [Str.length] using hx) (fun c hc=>⟨[some (.str x),some (.int a),some (.int b),some (.str ⟨#[c]⟩)],rfl,rfl,fun _=>?_⟩) ?_
      · simp[dIn,mJ]
      · rw[c5]
        simp -dsimp
        simp[kN,h1,h2]
    · simp -dsimp [cG,hl,h1,h2]
      simp[kN,h1,h2]
  · simp -dsimp [cG,hl,h1]
    simp[kN,h1]
theorem fE:∀x∈six,kN x 3 3=true∧x.length≤1000000∧PyData.strOk x=true:=by decide +kernel
theorem xJ {xs:List D} {a:D} (h:∀z∈xs,peq z a=false):(xs.any fun z=>peq z a)=false:=by
  rw[List.any_eq_false]
  intro z hz
  rw[h z hz]; simp
theorem pi {S:Sto} {a:D} {xs:List D} (h1:dok 60 a=true) (h2:∀x∈xs,dok 59 x=true) (h:∀z∈xs,peq z a=false):dIn S a (.lst xs)=some false:=by
  simp only[dIn,r6,h1,pI,List.all_eq_true.mpr h2,xJ h]
  rfl
theorem zG {S:Sto} {a:D} {xs:List D} (h1:dok 60 a=true) (h2:∀x∈xs,dok 59 x=true) (h:∃z∈xs,peq z a=true):dIn S a (.lst xs)=some true:=by
  have:(xs.any fun z=>peq z a)=true:=List.any_eq_true.mpr h
  simp only[dIn,r6,h1,pI,List.all_eq_true.mpr h2,this]
  rfl
theorem zH {S:Sto} {p:Str × Int} {pre:List (Str × Int)} {A:D} (hn:p.1∈six) (hpre:∀q∈pre,q.1∈six) (hnot:p.1∉pre.map (·.1)) (hc:10≤p.2∧p.2≤300) (hl:pre.length≤1000000) (hA:A=.tup (pre.map bx)∨A=.tpn (pre.map bx)):f8 [bx p,A] S=.ok (.bool true) S:=by
  have hw:=fE _ hn
  have hi:bO S A=some (.items (pre.map bx)):=by rcases hA with rfl|rfl<;>simp
  apply af
  unfold f8
  apply aX
  unfold nz
  simp -dsimp [cG,bx,Ag,hw,hi]
  refine av (f:=bx) pre (fun _=>true) (fun q=>.str q.1) (by rfl) hl (fun q hq=>⟨_,rfl,rfl,fun _=>rfl⟩) ?_
  rw[c5]
  have:=pi (S:=S) (a:=.str p.1) (xs:=pre.map fun q=>D.str q.1) (by simp[hw]) (fun x hx=>by
    obtain ⟨q,hq,rfl⟩:=List.mem_map.mp hx
    simp[fE _ (hpre q hq)]) (fun z hz=>by
    obtain ⟨q,hq,rfl⟩:=List.mem_map.mp hz
    simp only[AM,decide_eq_false_iff_not]
    exact fun e=>hnot (List.mem_map.mpr ⟨q,hq,e⟩))
  simp -dsimp [this,hc]
theorem leg_eq {S:Sto} {l:Leg} {pre:List Leg} {names:List Str} {A:D} (h:ly names l) (hns:∀x∈names,x∈six) (hnot:l.num∉pre.map (·.num)) (hl:pre.length≤1000000) (hd:l.days.length≤1000000) (hA:A=.tup (pre.map Leg.d)∨A=.tpn (pre.map Leg.d)):ic [l.d,A,.lst (names.map D.str)] S=.ok (.bool true) S:=by
  have hi:bO S A=some (.items (pre.map Leg.d)):=by rcases hA with rfl|rfl<;>simp
  have hws:=fE _ (hns _ h.s)
  have hwg:=fE _ (hns _ h.g)
  apply af
  unfold ic
  apply aX
  unfold tU
  have hnum:1≤l.num∧l.num≤9999:=h.num
  simp -dsimp [cG,Leg.d,hnum,hi]
  refine av (f:=Leg.d) pre (fun _=>true) (fun q=>.int q.num) (by rfl) hl (fun q hq=>⟨_,rfl,rfl,fun _=>by simp[Leg.d]⟩) ?_
  rw[c5]
  have h1:=pi (S:=S) (a:=.int l.num) (xs:=pre.map fun q=>D.int q.num) (by simp) (fun x hx=>by
    obtain ⟨q,hq,rfl⟩:=List.mem_map.mp hx
    simp) (fun z hz=>by
    obtain ⟨q,hq,rfl⟩:=List.mem_map.mp hz
    simp only[AL,decide_eq_false_iff_not]
    exact fun e=>hnot (List.mem_map.mpr ⟨q,hq,e⟩))
  have hnd:∀x∈names.map D.str,dok 59 x=true:=fun x hx=>by
    obtain ⟨q,hq,rfl⟩:=List.mem_map.mp hx
    simp[fE _ (hns q hq)]
  have h2:=zG (S:=S) (a:=.str l.start) (xs:=names.map D.str) (by simp[hws]) hnd ⟨.str l.start,List.mem_map.mpr ⟨_,h.s,rfl⟩,by simp⟩
  have h3:=zG (S:=S) (a:=.str l.goal) (xs:=names.map D.str) (by simp[hwg]) hnd ⟨.str l.goal,List.mem_map.mpr ⟨_,h.g,rfl⟩,by simp⟩
  have h4:=h.ne
  have h5:=Af (S:=S) (b:=l.db) ⟨h.dne,h.dlt,h.dbd⟩ hd
  have h6:l.out≤1439:=by have:=h.out; omega
  simp -dsimp [cG,h1,h2,h3,h4,h5,h6,hws,hwg,h.out,h.long,h.fare]
theorem jH:∀ {ds:List Int} {lo:Int},ds.Pairwise (·<·)→(∀d∈ds,lo≤d∧d≤6)→lo≤7→(ds.length:Int)≤7 - lo
  | [],lo,_,_,h=>by simp; omega
  | a::ds,lo,h1,h2,h=>by
    rw[List.pairwise_cons] at h1
    have ha:=h2 a List.mem_cons_self
    have:=jH (lo:=a+1) h1.2 (fun d hd=>⟨by have:=h1.1 d hd; omega,(h2 d (List.mem_cons_of_mem _ hd)).2⟩) (by omega)
    simp
    omega
theorem kO {ds:List Int} (h1:ds.Pairwise (·<·)) (h2:∀d∈ds,0≤d∧d≤6):ds.length≤7:=by
  have:=jH h1 h2 (by omega)
  omega
theorem NetOk.sub {ps:List (Str × Int)} {ls:List Leg} (h:NetOk ps ls):∀x∈ps.map (·.1),x∈six:=by
  obtain ⟨n,_,_,e⟩:=h.names
  rw[e]
  exact fun x hx=>List.mem_of_mem_take hx
theorem NetOk.pnd {ps:List (Str × Int)} {ls:List Leg} (h:NetOk ps ls):(ps.map (·.1)).Nodup:=by
  obtain ⟨n,_,h6,e⟩:=h.names
  rw[e]
  exact (gB h6).2
theorem NetOk.plen {ps:List (Str × Int)} {ls:List Leg} (h:NetOk ps ls):2≤ps.length∧ps.length≤6:=by
  obtain ⟨n,h2,h6,e⟩:=h.names
  have:=congrArg List.length e
  rw[List.length_map,(gB h6).1] at this
  omega
theorem Ah {S:Sto} {ps:List (Str × Int)} {ls:List Leg} (h:NetOk ps ls):f9 [cc ps ls] S=.ok .none S:=by
  have hpl:=h.plen
  have hll:=h.len
  apply af
  unfold f9
  apply aX
  unfold n4
  have hp:c4 (ps.map bx) []=false:=by
    cases ps with
    | nil=>simp at hpl
    | cons a l=>simp
  have hpk:dok 60 (.tpn (ps.map bx))=true:=by
    simp only[ww,List.all_map,List.all_eq_true]
    intro p hp
    simp[bx,fE _ (h.sub p.1 (List.mem_map.mpr ⟨p,hp,rfl⟩))]
  have hpk2:dok 60 (.tup (ps.map bx))=true:=hpk
  simp -dsimp [cc,cG,hp,hpk2,nU]
  refine dU (f:=fun p:(Str × Int) × Nat=>D.tup [.int (p.2:Nat),bx p.1]) ps.zipIdx (fun _ _ env S'=>S'=S∧∃x3 x4 x5 x6 x7 x8,env=[some (cc ps ls),some (.tpn (ps.map bx)),some (.tpn (ls.map Leg.d)),x3,x4,x5,x6,x7,x8]) rfl ⟨rfl,_,_,_,_,_,_,rfl⟩ ?_ ?_
  · rintro pre x rest env S' hpre ⟨rfl,x3,x4,x5,x6,x7,x8,rfl⟩
    obtain ⟨e1,e2⟩:=pd hpre
    refine ⟨_,rfl,?_⟩
    obtain ⟨d',c1,c2⟩:=ux (d:=.tpn (ps.map bx)) (xs:=ps.map bx) (.inr rfl) none (some (x.2:Nat))
    have hq:ps.take x.2=pre.map (·.1):=by
      rw[e1,e2,List.take_left' (by simp)]
    rw[qX,←List.map_take,hq] at c2
    have hm:x.1∈ps:=by rw[e2]; simp
    have hnd:=h.pnd
    rw[e2] at hnd
    have hx12:¬((x.2:Int)=12):=by
      have:=congrArg List.length e2
      simp at this
      omega
    have hpe:=zH (S:=S') (p:=x.1) (pre:=pre.map (·.1)) (A:=d') (h.sub _ (List.mem_map.mpr ⟨_,hm,rfl⟩)) (fun q hq=>h.sub _ (List.mem_map.mpr ⟨q,by rw[e2]; exact List.mem_append_left _ hq,rfl⟩)) (fun z=>by
      rw[List.map_append,List.nodup_append] at hnd
      exact hnd.2.2 _ z _ (by simp) rfl) (h.ch _ hm) (by have:=congrArg List.length e2; simp at this ⊢; omega) c2
    simp -dsimp [hx12,c1,hpe]
  · rintro env S' ⟨rfl,x3,x4,x5,x6,x7,x8,rfl⟩
    simp -dsimp [cG]
    refine av (f:=bx) ps (fun _=>true) (fun q=>.str q.1) (by rfl) (by omega) (fun q hq=>⟨_,rfl,rfl,fun _=>rfl⟩) ?_
    rw[c5]
    have e:(ps.map fun q=>D.str q.1)=(ps.map (·.1)).map D.str:=by rw[List.map_map]; rfl
    rw[e]
    obtain ⟨nn,hnn⟩:∃nn,nn=(ps.map (·.1)).map D.str:=⟨_,rfl⟩
    rw[←hnn]
    simp -dsimp [nU]
    refine dU (f:=fun p:Leg × Nat=>D.tup [.int (p.2:Nat),p.1.d]) ls.zipIdx (fun _ _ env S''=>S''=S'∧∃x3 x4 x6 x7 x8,env=[some (cc ps ls),some (.tpn (ps.map bx)),some (.tpn (ls.map Leg.d)),x3,x4,some (.lst nn),x6,x7,x8]) rfl ⟨rfl,_,_,_,_,_,rfl⟩ ?_ ?_
    · rintro pre x rest env S'' hpre ⟨rfl,x3,x4,x6,x7,x8,rfl⟩
      obtain ⟨e1,e2⟩:=pd hpre
      refine ⟨_,rfl,?_⟩
      obtain ⟨d',c1,c2⟩:=ux (d:=.tpn (ls.map Leg.d)) (xs:=ls.map Leg.d) (.inr rfl) none (some (x.2:Nat))
      have hq:ls.take x.2=pre.map (·.1):=by
        rw[e1,e2,List.take_left' (by simp)]
      rw[qX,←List.map_take,hq] at c2
      have hm:x.1∈ls:=by rw[e2]; simp
      have hnd:=h.nd
      rw[e2] at hnd
      have hx12:¬((x.2:Int)=60):=by
        have:=congrArg List.length e2
        simp at this
        omega
      have hok:=h.legs _ hm
      have hpe:=leg_eq (S:=S'') (l:=x.1) (pre:=pre.map (·.1)) (A:=d') hok h.sub (fun z=>by
        rw[List.map_append,List.nodup_append] at hnd
        exact hnd.2.2 _ z _ (by simp) rfl) (by have:=congrArg List.length e2; simp at this ⊢; omega) (by have:=kO hok.dlt hok.dbd; omega) c2
      rw[←hnn] at hpe
      simp -dsimp [hx12,c1,hpe]
    · rintro env S'' ⟨rfl,x3,x4,x6,x7,x8,rfl⟩
      exact ⟨rfl,rfl⟩
end DL
namespace DL
open PySem PySem.Spec PyProof.Rows L2 LamX
theorem qs (ps:List (Str × Int)):eU (ps.map bx)=some (ps.map fun p=>(.str p.1,.int p.2)):=by
  induction ps with
  | nil=>rfl
  | cons p ps ih=>simp[eU,uZ,bx,ih]
theorem wS {acc:List (D × D)} {k v:D} (h:∀p∈acc,cq p.1≠cq k):g5 false acc k v=acc++[(k,v)]:=by
  unfold g5
  rw[if_neg]
  simp only[List.any_eq_true,not_exists,not_and]
  intro p hp
  simp[keq,h p hp]
theorem oF:∀(ps acc:List (D × D)),(ps.map fun p=>cq p.1).Nodup→(∀p∈acc,∀q∈ps,cq p.1≠cq q.1)→eF acc ps=acc++ps
  | [],acc,_,_=>by simp[eF]
  | q::ps,acc,nd,h=>by
    rw[List.map_cons,List.nodup_cons] at nd
    unfold eF
    rw[wS fun p hp=>h p hp q List.mem_cons_self,oF ps _ nd.2 fun p hp r hr=>?_]
    · simp
    · rcases List.mem_append.mp hp with hp|hp
      · exact h p hp r (List.mem_cons_of_mem _ hr)
      · rw[List.mem_singleton.mp hp]
        exact fun e=>nd.1 (List.mem_map.mpr ⟨r,hr,e.symm⟩)
/-- {k: v for ..} by new keys -/
theorem xK {τ:Type} {g:MG} {tc:MT} {mk mv:ME} {w:En} {f:τ→D} {ds:List D} {S:Sto} {Q:List (D × D)→Sto→Prop} {E:XV→Sto→Prop} (xs:List τ) (k v:τ→D) (e:ds=xs.map f) (hl:xs.length≤1000000) (nd:(xs.map fun x=>cq (k x)).Nodup)
    (hx:∀x∈xs,∃e,g (f x) w S=some (e,S)∧tc e S=.ok true S∧mk e S=.ok (k x) S∧mv e S=.ok (v x) S∧cg false (k x)=true) (q:Q (xs.map fun x=>(k x,v x)) S):Res.wp (fK g tc mk mv w ds [] S) Q E:=by
  subst e
  have loop:∀(rest:List τ) (acc:List (D × D)),(∀x∈rest,x∈xs)→acc.length+rest.length≤1000000→(rest.map fun x=>cq (k x)).Nodup→(∀p∈acc,∀x∈rest,cq p.1≠cq (k x))→fK g tc mk mv w (rest.map f) acc S=.ok (acc++rest.map fun x=>(k x,v x)) S:=by
    intro rest
    induction rest with
    | nil=>intro acc _ _ _ _; simp[fK]
    | cons x rest ih=>
      intro acc hm hl nd hn
      obtain ⟨e,e1,e2,e3,e4,e5⟩:=hx x (hm x List.mem_cons_self)
      rw[List.length_cons] at hl
      rw[List.map_cons,List.nodup_cons] at nd
      rw[List.map_cons]
      unfold fK km
      have ha:acc.length<1000000:=by omega
      simp only[e1,e2,e3,e4,e5,bZ,if_true,ha,and_self]
      rw[wS fun p hp=>hn p hp x List.mem_cons_self,ih _ (fun y hy=>hm y (List.mem_cons_of_mem _ hy)) (by simp; omega) nd.2 fun p hp y hy=>?_]
      · simp
      · rcases List.mem_append.mp hp with hp|hp
        · exact hn p hp y (List.mem_cons_of_mem _ hy)
        · rw[List.mem_singleton.mp hp]
          exact fun e=>nd.1 (List.mem_map.mpr ⟨y,hy,e.symm⟩)
  rw[loop xs [] (fun _ h=>h) (by simpa using hl) nd nofun,eh]
  simpa using q
/-- what a new net lays -/
def tz (n:Nat) (ps:List (Str × Int)) (ls:List Leg):Sto:=[.ins "Net" [("changes",.loc (n+1)),("legs",.loc (n+2))],.dct false (ps.map fun p=>(.str p.1,.int p.2)),.dct false (ls.map fun x=>(.int x.num,x.d))]
theorem oG {τ:Type} {xs:List τ} {k:τ→D} {κ:Type} {i:τ→κ} (h:(xs.map i).Nodup) (hk:∀x y,cq (k x)=cq (k y)→i x=i y):(xs.map fun x=>cq (k x)).Nodup:=by
  induction xs with
  | nil=>simp
  | cons x xs ih=>
    rw[List.map_cons,List.nodup_cons] at h ⊢
    refine ⟨fun z=>?_,ih h.2⟩
    obtain ⟨y,hy,e⟩:=List.mem_map.mp z
    exact h.1 (List.mem_map.mpr ⟨y,hy,hk _ _ e⟩)
theorem i5 {S:Sto} {ps:List (Str × Int)} {ls:List Leg} (h:NetOk ps ls):ck [.loc S.length,cc ps ls] (S++[.ins "Net" []])=.ok .none (S++tz S.length ps ls):=by
  have hpl:=h.plen
  have hll:=h.len
  apply af
  unfold ck
  apply aX
  unfold kB
  have hg:∀x:O,(S++[x])[S.length]?=some x:=fun x=>by simp
  have hg2:∀x y:O,(S++[x,y])[S.length]?=some x:=fun x y=>by simp
  have hg3:∀x y z:O,(S++[x,y,z])[S.length]?=some x:=fun x y z=>by simp
  have hs2:∀x y z:O,(S++[x,y]).set S.length z=S++[z,y]:=fun x y z=>by rw[List.set_append_right _ _ (Nat.le_refl _)]; simp
  have hs3:∀x y u z:O,(S++[x,y,u]).set S.length z=S++[z,y,u]:=fun x y u z=>by rw[List.set_append_right _ _ (Nat.le_refl _)]; simp
  have hpa:eF [] (ps.map fun p=>(D.str p.1,D.int p.2))=ps.map fun p=>(D.str p.1,D.int p.2):=by
    have:=oF (ps.map fun p=>(D.str p.1,D.int p.2)) [] (by
      rw[List.map_map]
      exact oG (k:=fun p:Str × Int=>D.str p.1) (i:=(·.1)) h.pnd fun x y e=>by simpa [cq] using e) nofun
    simpa using this
  simp -dsimp [Ah h]
  simp -dsimp [cc,qs,hpa]
  rw[if_pos (by omega)]
  simp -dsimp [hg2,hs2,iK]
  refine xK (f:=Leg.d) ls (fun l=>.int l.num) Leg.d rfl (by omega) (oG (i:=(·.num)) h.nd fun x y e=>by simpa [cq] using e) (fun x hx=>⟨_,rfl,rfl,by simp[Leg.d],by simp,rfl⟩) ?_
  simp -dsimp [hg3,hs3,iK,tz]
theorem pj {S:Sto} {ps:List (Str × Int)} {ls:List Leg}:NetAt (S++tz S.length ps ls) S.length ps ls:=
  ⟨⟨S.length+1,S.length+2,by simp[tz],by simp[tz],by simp[tz]⟩⟩
section
variable {S:Sto} {l:Nat} {ps:List (Str × Int)} {ls:List Leg} {r:aI}
theorem kP (h:HasLeg ls r.2):dD false (ls.map fun x=>(.int x.num,x.d)) (.int r.2)=some (b7 ls r.2).d:=by
  rw[sN,hV h]; rfl
theorem t9 (N:qp S l ls) (h:HasLeg ls r.2):bc [.loc l,aF r] S=.ok (.int (bB ls r)) S:=by
  obtain ⟨c,g,h1,h3⟩:=N.ex
  apply af
  unfold bc
  apply aX
  unfold lp
  simp -dsimp [aF,h1,nQ h3,kP h]
  simp -dsimp [Leg.d,bB]
theorem po (N:NetAt S l ps ls) (h:HasLeg ls r.2):bc [.loc l,aF r] S=.ok (.int (bB ls r)) S:=t9 N.l h
theorem Ai (N:qp S l ls) (h:HasLeg ls r.2):eO [.loc l,aF r] S=.ok (.str (oE ls r)) S:=by
  obtain ⟨c,g,h1,h3⟩:=N.ex
  apply af
  unfold eO
  apply aX
  unfold nw
  simp -dsimp [aF,h1,nQ h3,kP h]
  simp -dsimp [Leg.d,oE]
theorem zI (N:NetAt S l ps ls) (h:HasLeg ls r.2):eO [.loc l,aF r] S=.ok (.str (oE ls r)) S:=Ai N.l h
theorem zJ (N:qp S l ls) (h:HasLeg ls r.2):dX [.loc l,aF r] S=.ok (.str (ja ls r)) S:=by
  obtain ⟨c,g,h1,h3⟩:=N.ex
  apply af
  unfold dX
  apply aX
  unfold lq
  simp -dsimp [aF,h1,nQ h3,kP h]
  simp -dsimp [Leg.d,ja]
theorem xL (N:NetAt S l ps ls) (h:HasLeg ls r.2):dX [.loc l,aF r] S=.ok (.str (ja ls r)) S:=zJ N.l h
theorem Aj (N:qp S l ls) (h:HasLeg ls r.2):fz [.loc l,aF r] S=.ok (.int (wO ls r)) S:=by
  obtain ⟨c,g,h1,h3⟩:=N.ex
  apply af
  unfold fz
  apply aX
  unfold nr
  simp -dsimp [aF,h1,nQ h3,kP h]
  simp -dsimp [Leg.d,wO]
theorem xM (N:qp S l ls) (h:HasLeg ls r.2):c7 [.loc l,aF r] S=.ok (.int (kL ls r)) S:=by
  obtain ⟨c,g,h1,h3⟩:=N.ex
  apply af
  unfold c7
  apply aX
  unfold j4
  simp -dsimp [h1,t9 N h,Aj N h]
  simp[kL]
theorem vO (N:NetAt S l ps ls) (h:HasLeg ls r.2):c7 [.loc l,aF r] S=.ok (.int (kL ls r)) S:=xM N.l h
theorem Ak (N:qp S l ls) {d:Int} {n:Int} (hh:HasLeg ls n) (hd:∀l∈ls,l.days.length≤1000):fv [.loc l,.int d,.int n] S=.ok (.bool (decide (0≤d∧d≤60∧d % 7∈(b7 ls n).days))) S:=by
  obtain ⟨c,g,h1,h3⟩:=N.ex
  apply af
  unfold fv
  apply aX
  unfold nq
  have lk:dD false (ls.map fun x=>(.int x.num,x.d)) (.int n)=some (b7 ls n).d:=by
    rw[sN,hV hh]; rfl
  have hin:dIn S (.int n) (.loc g)=some true:=by rcases jM h3 with h3|h3<;>simp[dIn,h3,lk]
  have hin2:dIn S (.int (d % 7)) (iL (b7 ls n).db (b7 ls n).days)=some (decide (d % 7∈(b7 ls n).days)):=by
    simp only[dIn,pZ]
    have:(((b7 ls n).days.map D.int).any fun z=>peq z (.int (d % 7)))=decide (d % 7∈(b7 ls n).days):=by
      rw[Bool.eq_iff_iff]; simp[List.any_eq_true]
    rw[this]
    simp
  by_cases c1:0≤d
  · by_cases c2:d≤60
    · simp -dsimp [c1,c2,h1,hin]
      simp -dsimp [h1,nQ h3,lk]
      simp -dsimp [Leg.d,hin2]
      simp[c1,c2]
    · simp -dsimp [c1,c2]
  · simp -dsimp [c1]
end
end DL
namespace DL
open PySem PySem.Spec PyProof.Rows L2 LamX
section
variable {S:Sto} {ps:List (Str × Int)} {ls:List Leg} {r:aI}
theorem wT {env:En} {g:MG} {tc:MT} {m:ME} {Q:List D→Sto→Prop} {E:XV→Sto→Prop} (nd:(ls.map (·.num)).Nodup) (hl:ls.length≤1000000) (h:HasLeg ls r.2)
    (hx:∀x∈ls,∃e,g x.d env S=some (e,S)∧tc e S=.ok (decide (x.num=r.2)) S∧m e S=.ok x.d S) (q:Q [(b7 ls r.2).d] S):Res.wp (c8 g tc m env (ls.map Leg.d) [] S) Q E:=by
  refine av (f:=Leg.d) ls (fun l=>decide (l.num=r.2)) Leg.d rfl hl (fun x h=>?_) ?_
  · obtain ⟨e,e1,e2,e3⟩:=hx x h
    exact ⟨e,e1,e2,fun _=>e3⟩
  · rw[xI nd h]; exact q
theorem oH (nd:(ls.map (·.num)).Nodup) (hl:ls.length≤1000000) (h:HasLeg ls r.2):eP [cc ps ls,aF r] S=.ok (b7 ls r.2).d S:=by
  apply af
  unfold eP
  apply aX
  unfold pW
  simp -dsimp [cc]
  refine wT nd hl h ?_ ?_
  · exact fun x hx=>⟨_,rfl,by simp[Leg.d,aF],by simp⟩
  simp -dsimp
theorem hY (nd:(ls.map (·.num)).Nodup) (hl:ls.length≤1000000) (h:HasLeg ls r.2):cJ [cc ps ls,aF r] S=.ok (.int (bB ls r)) S:=by
  apply af
  unfold cJ
  apply aX
  unfold lu
  simp -dsimp [aF]
  simp -dsimp [cc]
  refine wT nd hl h ?_ ?_
  · exact fun x hx=>⟨_,rfl,by simp[Leg.d,aF],by simp⟩
  simp -dsimp
  simp -dsimp [Leg.d,bB]
  omega
/-- (leave,number,day) of what goes on n days from a first one on -/
def am (ls:List Leg) (first:Int) (n:Nat):List (Int × Int × Int):=(List.range n).flatMap fun i:Nat=>(ls.filter fun l=>decide ((first+i) % 7∈l.days)).map fun l=>(1440*(first+i)+l.out,l.num,first+i)
theorem oJ (ls:List Leg) (first:Int) (n:Nat):am ls first (n+1)=am ls first n++(ls.filter fun l=>decide ((first+n) % 7∈l.days)).map fun l=>(1440*(first+n)+l.out,l.num,first+n):=by
  unfold am
  rw[List.range_succ,List.flatMap_append]; simp
theorem mK (ls:List Leg) (first:Int) (n:Nat):(am ls first n).length≤n*ls.length:=by
  induction n with
  | zero=>simp[am]
  | succ n ih=>
    rw[oJ,List.length_append,List.length_map,Nat.succ_mul]
    have:=List.length_filter_le (fun l:Leg=>decide ((first+n) % 7∈l.days)) ls
    omega
/-- all rides of some days,by the law -/
def bR (ls:List Leg) (first:Int) (n:Nat):List aI:=((am ls first n).mergeSort le3).map fun t=>(t.2.2,t.2.1)
theorem uA (ls:List Leg) (first:Int) (n:Nat):(bR ls first n).length≤n*ls.length:=by
  unfold bR
  rw[List.length_map,List.length_mergeSort]
  exact mK ls first n
theorem mem_raw {ls:List Leg} {first:Int} {n:Nat} {t:Int × Int × Int}:t∈am ls first n↔∃i:Nat,i<n∧∃l∈ls,(first+i) % 7∈l.days∧t=(1440*(first+i)+l.out,l.num,first+i):=by
  unfold am
  rw[List.mem_flatMap]
  constructor
  · rintro ⟨i,hi,ht⟩
    obtain ⟨l,hl,rfl⟩:=List.mem_map.mp ht
    rw[List.mem_filter] at hl
    exact ⟨i,List.mem_range.mp hi,l,hl.1,by simpa using hl.2,rfl⟩
  · rintro ⟨i,hi,l,hl,hd,rfl⟩
    exact ⟨i,List.mem_range.mpr hi,List.mem_map.mpr ⟨l,List.mem_filter.mpr ⟨hl,by simpa using hd⟩,rfl⟩⟩
theorem ik {ls:List Leg} (nd:(ls.map (·.num)).Nodup) {first:Int} {n:Nat} {r:aI}:r∈bR ls first n↔first≤r.1∧r.1<first+n∧HasLeg ls r.2∧r.1 % 7∈(b7 ls r.2).days:=by
  unfold bR
  rw[List.mem_map]
  constructor
  · rintro ⟨t,ht,rfl⟩
    obtain ⟨i,hi,l,hl,hd,rfl⟩:=mem_raw.mp (List.mem_mergeSort.mp ht)
    refine ⟨by simp; omega,by simp; omega,⟨l,hl,rfl⟩,?_⟩
    simp only[ii nd hl]
    exact hd
  · rintro ⟨h1,h2,h3,h4⟩
    refine ⟨(1440*r.1+(b7 ls r.2).out,r.2,r.1),List.mem_mergeSort.mpr (mem_raw.mpr ⟨(r.1 - first).toNat,by omega,b7 ls r.2,i4 h3,?_,?_⟩),rfl⟩
    · rw[show first+((r.1 - first).toNat:Int)=r.1 by omega]; exact h4
    · rw[show first+((r.1 - first).toNat:Int)=r.1 by omega,pb h3]
/-- what stands as rides are found -/
structure RdI (S:Sto) (acc:List (Int × Int × Int)) (d0 d1 d2:D) (P:Option D→Prop) (env:En) (S':Sto):Prop where
  ex:∃x4 x5 x6 x7,P x4∧env=[some d0,some d1,some d2,some (.loc S.length),x4,x5,x6,x7]∧S'=S++[.lst (acc.map trD)]
theorem Al {S:Sto} {x:Int} {b:Bool} {ds:List Int}:dIn S (.int x) (iL b ds)=some (decide (x∈ds)):=by
  simp only[dIn,pZ]
  have:((ds.map D.int).any fun z=>peq z (.int x))=decide (x∈ds):=by
    rw[Bool.eq_iff_iff]; simp[List.any_eq_true]
  rw[this]
  simp
theorem zK {first last:Int} {Q:D→Sto→Prop} {E:XV→Sto→Prop} (hl:ls.length≤60) (hd:∀l∈ls,l.days.length≤1000) (h0:0≤first∧first≤61) (h1:last≤1000000) (h2 : -1000000≤last)
    (q:∀j,Q (.lst ((bR ls first (min 60 last+1 - first).toNat).map aF)) (S++[j])):Res.wp (fB [cc ps ls,.int first,.int last] S) Q E:=by
  unfold fB
  apply aX
  unfold lw
  have s1:bU first=true:=eI (by omega)
  have s2:bU (min 60 last+1)=true:=eI (by omega)
  obtain ⟨n,hn⟩:∃n,n=(min 60 last+1 - first).toNat:=⟨_,rfl⟩
  rw[←hn] at q
  simp -dsimp [s1,s2,←hn,gD]
  refine dU (f:=fun i:Nat=>D.int (first+i)) (List.range n) (fun pre _=>RdI S (am ls first pre.length) (cc ps ls) (.int first) (.int last) fun _=>True) rfl ⟨_,_,_,_,trivial,rfl,by simp[am]⟩ ?_ ?_
  · rintro pre i rest env S' hp ⟨x4,x5,x6,x7,_,rfl,rfl⟩
    obtain ⟨rfl,hi⟩:=kM hp
    refine ⟨_,rfl,?_⟩
    simp -dsimp [cc]
    refine dU (f:=Leg.d) ls (fun pre2 _=>RdI S (am ls first pre.length++(pre2.filter fun l=>decide ((first+pre.length) % 7∈l.days)).map fun l=>(1440*(first+pre.length)+l.out,l.num,first+pre.length)) (cc ps ls) (.int first) (.int last) fun x=>x=some (.int (first+pre.length))) rfl ?_ ?_ ?_
    · exact ⟨_,_,_,_,rfl,rfl,by simp⟩
    · rintro pre2 l rest2 env S' hp2 ⟨y4,y5,y6,y7,rfl,rfl,rfl⟩
      have hlen:(am ls first pre.length++(pre2.filter fun l=>decide ((first+pre.length) % 7∈l.days)).map fun l=>(1440*(first+pre.length)+l.out,l.num,first+(pre.length:Int))).length<1000000:=by
        have a:=mK ls first pre.length
        have b:=List.length_filter_le (fun l:Leg=>decide ((first+pre.length) % 7∈l.days)) pre2
        have c:=congrArg List.length hp2
        have e:pre.length*ls.length≤1000062 / 1000*60:=Nat.mul_le_mul (by omega) hl
        rw[List.length_append,List.length_map]
        rw[List.length_append,List.length_cons] at c
        omega
      refine ⟨_,rfl,?_⟩
      simp -dsimp [Leg.d,Al]
      by_cases hg:(first+pre.length) % 7∈l.days
      · rw[List.length_append,List.length_map] at hlen
        simp -dsimp [hg,bX,bD]
        rw[if_pos (by simpa using hlen)]
        simp -dsimp
        exact ⟨_,_,_,_,rfl,rfl,by simp[hg,trD]⟩
      · simp -dsimp [hg]
        exact ⟨_,_,_,_,rfl,rfl,by simp[hg]⟩
    · rintro env S' ⟨y4,y5,y6,y7,rfl,rfl,rfl⟩
      exact ⟨_,_,_,_,trivial,rfl,by rw[List.length_append,List.length_singleton,oJ]⟩
  · rintro env S' ⟨x4,x5,x6,x7,_,rfl,rfl⟩
    have hlen:(am ls first n).length≤100000:=by
      have a:=mK ls first n
      have e:n*ls.length≤61*60:=Nat.mul_le_mul (by omega) hl
      omega
    have hso:=k9 (S:=S++[.lst ((am ls first n).map trD)]) (d:=.loc S.length) (am ls first n) trD le3 (nV (by simp)) (fun x=>by simp[trD]) (fun x y=>by simp[trD]) (fun x=>⟨_,_,rfl⟩) ye (by omega)
    rw[List.length_range]
    simp -dsimp [hso]
    refine av (f:=trD) ((am ls first n).mergeSort le3) (fun _=>true) (fun t=>.tup [.int t.2.2,.int t.2.1]) rfl (by rw[List.length_mergeSort]; omega) (fun x hx=>⟨_,rfl,rfl,fun _=>by simp⟩) ?_
    rw[c5]
    simp -dsimp
    have:=q (.lst ((am ls first n).map trD))
    unfold bR at this
    rw[List.map_map] at this
    exact this
end
end DL
namespace DL
open PySem PySem.Spec PyProof.Rows L2 LamX
/-- the second clause's walk,by an own filter and function -/
theorem jb {τ:Type} {g:MG} {tc:MT} {m:ME} {w:En} {f:τ→D} {S:Sto} (p:τ→Bool) (v:τ→D):∀(xs:List τ) (acc:List D),acc.length+(xs.filter p).length≤1000000→
    (∀x∈xs,∃e,g (f x) w S=some (e,S)∧tc e S=.ok (p x) S∧(p x=true→m e S=.ok (v x) S))→fm (eA g tc m w) (xs.map f) acc S=.ok (acc++(xs.filter p).map v) S
  | [],acc,_,_=>by simp[fm]
  | x::xs,acc,hl,hx=>by
    obtain ⟨e,e1,e2,e3⟩:=hx x List.mem_cons_self
    rw[List.map_cons]
    unfold fm eA
    simp only[e1,e2,bZ]
    have hy:∀y∈xs,∃e,g (f y) w S=some (e,S)∧tc e S=.ok (p y) S∧(p y=true→m e S=.ok (v y) S):=fun y hy=>hx y (List.mem_cons_of_mem _ hy)
    cases hp:p x with
    | false=>
      simp only[Bool.false_eq_true,if_false,bZ]
      rw[List.filter_cons_of_neg (by simp[hp])] at hl
      have:=jb p v xs acc hl hy
      unfold eA at this
      rw[this]
      simp[hp]
    | true=>
      rw[List.filter_cons_of_pos hp,List.length_cons] at hl
      have ha:acc.length<1000000:=by omega
      simp only[if_true,e3 hp,bZ,ha]
      have:=jb p v xs (acc++[v x]) (by simp; omega) hy
      unfold eA at this
      rw[this]
      simp[hp]
theorem vP {τ:Type} (f k:τ→D) (xs:List τ) (le:τ→τ→Bool) (h:∀x∈xs,∀y∈xs,dle (k x) (k y)=le x y):jV (xs.map f) (xs.map k)=(xs.mergeSort le).map f:=by
  unfold jV
  have e:(xs.map f).zip (xs.map k)=xs.map fun x=>(f x,k x):=by
    rw[List.zip_map,List.zip_eq_zipWith]
    simp[List.zipWith_self,List.map_map]
  rw[e,←List.map_mergeSort (r:=le) (s:=fun a b:D × D=>dle a.2 b.2) (f:=fun x=>(f x,k x)) fun a ha b hb=>(h a ha b hb).symm]
  rw[List.map_map]
  rfl
theorem uB {τ:Type} {m mk:ME} {i:Nat} {env:En} {S S1:Sto} {d:D} (xs:List τ) (f k:τ→D) (le:τ→τ→Bool) (hm:m env S=.ok d S1) (hs:di S1 d=some (xs.map f)) (hk:∀x∈xs,mk (env.set i (some (f x))) S1=.ok (k x) S1)
    (ho:fJ (xs.map k)=true) (hl:xs.length≤1000000) (hle:∀x∈xs,∀y∈xs,dle (k x) (k y)=le x y):gY m i mk env S=.ok (.loc S1.length) (S1++[.lst ((xs.mergeSort le).map f)]):=by
  unfold gY
  rw[hm]
  simp only[Res.bind,hs]
  rw[nW xs [] hk,bZ]
  simp only[List.nil_append,ho,List.length_map,hl,and_self,if_true,vP f k xs le hle]
section
variable {S:Sto} {l:Nat} {ps:List (Str × Int)} {ls:List Leg} {r:aI}
def k2D (t:Int × Int × Int):D:=.tup [.int t.1,.int t.2.1]
def rd2 (t:Int × Int × Int):D:=.tup [.int t.2.2,.int t.2.1]
theorem kQ (N:NetAt S l ps ls) (nd:(ls.map (·.num)).Nodup) (hl:ls.length≤60) (hd:∀l∈ls,l.days.length≤1000) {first last:Int} (h0:0≤first) (h1:first≤last) (h2:last≤60) :
    bj [.loc l,.int first,.int last] S=.ok (.loc S.length) (S++[.lst ((bR ls first (last+1 - first).toNat).map aF)]):=by
  obtain ⟨n,hn⟩:∃n,n=(last+1 - first).toNat:=⟨_,rfl⟩
  rw[←hn]
  have hraw:(am ls first n).length≤100000:=by
    have a:=mK ls first n
    have e:n*ls.length≤61*60:=Nat.mul_le_mul (by omega) hl
    omega
  obtain ⟨c,g,q1,q2,q3⟩:=N.ex
  have NL:qp S l ls:=N.l
  apply af
  unfold bj
  apply aX
  unfold iH
  have s1:bU first=true:=eI (by omega)
  have s2:bU (last+1)=true:=eI (by omega)
  have hgl:g<S.length:=(List.getElem?_eq_some_iff.mp q3).1
  have hlg:l≠g:=fun z=>by subst z; rw[q1] at q3; cases q3
  obtain ⟨S',hS'⟩:∃S',S'=S.set g (.fdc false (ls.map fun x=>(.int x.num,x.d))):=⟨_,rfl⟩
  have p1:S'[l]?=some (.ins "Net" [("changes",.loc c),("legs",.loc g)]):=by rw[hS',List.getElem?_set_ne (Ne.symm hlg)]; exact q1
  have p3:S'[g]?=some (.fdc false (ls.map fun x=>(.int x.num,x.d))):=by rw[hS',List.getElem?_set_self hgl]
  have NL':qp S' l ls:=⟨⟨c,g,p1,by rw[p3]; rfl⟩⟩
  have back:S'.set g (.dct false (ls.map fun x=>(.int x.num,x.d)))=S:=by
    rw[hS',List.set_set]
    exact List.ext_getElem? fun i=>by
      by_cases hi:i=g
      · subst hi; rw[List.getElem?_set_self hgl,q3]
      · rw[List.getElem?_set_ne (Ne.symm hi)]
  have hfl:[]++(List.range n).flatMap (fun i:Nat=>(ls.filter fun x=>decide ((first+i) % 7∈x.days)).map fun x=>D.tup [.int (first+i),.int x.num])=(am ls first n).map rd2:=by
    simp[am,List.map_flatMap,rd2]
    rfl
  have hmem:∀t∈am ls first n,HasLeg ls t.2.1∧t.1=bB ls (t.2.2,t.2.1):=fun t ht=>by
    obtain ⟨i,hi,x,hx,hdx,rfl⟩:=mem_raw.mp ht
    refine ⟨⟨x,hx,rfl⟩,?_⟩
    simp only[bB,ii nd hx]
    omega
  have hsk:∀d1 d2 x4 x5 x6,gY (eV 3) 6 (cZ (aC (dG "Net" "leave" 2 bc (eV 0) (aC (eV 6) (aJ))) (aC (aK fIx (eV 6) (eC (.int 1))) (aJ)))) [some (.loc l),d1,d2,some (.lst ((am ls first n).map rd2)),x4,x5,x6] S=.ok (.loc S.length) (S++[.lst (((am ls first n).mergeSort le3).map rd2)]):=by
    intro d1 d2 x4 x5 x6
    refine uB (S1:=S) (d:=.lst ((am ls first n).map rd2)) (am ls first n) rd2 k2D le3 (by simp) rfl (fun t ht=>?_) ?_ (by omega) ?_
    · obtain ⟨m1,m2⟩:=hmem t ht
      have e:=po N (r:=(t.2.2,t.2.1)) m1
      simp only[aF] at e
      simp -dsimp [rd2,q1]
      rw[e]
      simp[k2D,m2]
    · unfold fJ
      simp only[Bool.and_eq_true,List.all_eq_true,List.mem_map,forall_exists_index,and_imp,forall_apply_eq_imp_iff₂,Bool.or_eq_true]
      exact ⟨⟨fun x _=>(by simp[k2D]:dok 60 (k2D x)=true),fun x _ y _=>(by simp[k2D]:alk (k2D x) (k2D y)=true)⟩,.inl fun x _=>rfl⟩
    · intro a ha b hb
      obtain ⟨a1,a2⟩:=hmem a ha
      obtain ⟨b1,b2⟩:=hmem b hb
      rw[jx,k2D,k2D,iw,bV,bV,fu,le3]
      rw[Bool.eq_iff_iff]
      by_cases c1:b.1=a.1
      · by_cases c2:b.2.1=a.2.1
        · have c3:a.2.2=b.2.2:=by
            rw[a2,b2] at c1
            simp only[bB,c2] at c1
            omega
          simp[c1,c2,c3]
        · simp[c1,c2]; omega
      · simp[c1]; omega
  simp -dsimp [q1,wx q3,←hS',s1,s2]
  rw[qY (S1:=S') (ds:=(List.range n).map fun i:Nat=>D.int (first+i)) (by simp[s1,s2,←hn,gD])]
  rw[nX (f:=fun i:Nat=>D.int (first+i)) (g:=fun i:Nat=>(ls.filter fun x=>decide ((first+i) % 7∈x.days)).map fun x=>D.tup [.int (first+i),.int x.num]) (List.range n) [] ?_ ?_]
  · rw[hfl]
    simp -dsimp [back,-sO,hsk]
    unfold bR
    rw[List.map_map]
    rfl
  · rw[hfl,List.length_map]; omega
  · intro i hi acc ha
    unfold lg
    have hi2:=List.mem_range.mp hi
    have hit:bO S' (.loc g)=some (.items (ls.map fun x=>D.int x.num)):=by simp[bO,p3]
    simp -dsimp [p1,hit,pF]
    have hlen:acc.length+(ls.filter fun x=>decide ((first+(i:Int)) % 7∈x.days)).length≤1000000:=by simpa using ha
    refine jb (f:=fun x:Leg=>D.int x.num) (fun x=>decide ((first+i) % 7∈x.days)) (fun x=>D.tup [.int (first+i),.int x.num]) ls acc hlen fun x hx=>⟨_,rfl,?_,fun _=>?_⟩
    · have e:=Ak NL' (d:=first+i) (n:=x.num) ⟨x,hx,rfl⟩ hd
      rw[ii nd hx] at e
      have e2:(0≤first+(i:Int)∧first+(i:Int)≤60∧(first+(i:Int)) % 7∈x.days)↔(first+(i:Int)) % 7∈x.days:=⟨fun h=>h.2.2,fun h=>⟨by omega,by omega,h⟩⟩
      simp only[e2] at e
      simp[p1,e]
    · simp
end
end DL
namespace DL
open PySem PySem.Spec PyProof.Rows L2 LamX
def aO {α:Type} (f:List (aI × α)) (r:aI):Option α:=(f.find? fun p=>p.1=r).map (·.2)
theorem oK {α:Type} {f:List (aI × α)} {r:aI} {a:α} (h:aO f r=some a):(r,a)∈f:=by
  unfold aO at h
  obtain ⟨p,h1,rfl⟩:=Option.map_eq_some_iff.mp h
  have:=List.find?_some h1
  have e:p.1=r:=by simpa using this
  rw[←e]
  exact List.mem_of_find?_eq_some h1
theorem lookR_none {α:Type} {f:List (aI × α)} {r:aI}:aO f r=none↔r∉f.map (·.1):=by
  unfold aO
  rw[Option.map_eq_none_iff,List.find?_eq_none]
  constructor
  · intro h z
    obtain ⟨p,hp,rfl⟩:=List.mem_map.mp z
    exact h p hp (by simp)
  · intro h p hp z
    exact h (List.mem_map.mpr ⟨p,hp,by simpa using z⟩)
theorem wU (r:aI):fW (aF r)=some [.inl r.1,.inl r.2]:=rfl
theorem im (a b:aI):keq true (aF a) (aF b)=decide (a=b):=by
  show decide (fW (aF a)=fW (aF b))=_
  rw[wU,wU]
  rw[decide_eq_decide]
  simp only[Option.some.injEq,List.cons.injEq,Sum.inl.injEq,and_true]
  exact ⟨fun h=>Prod.ext h.1 h.2,fun h=>by rw[h]; exact ⟨rfl,rfl⟩⟩
@[simp] theorem bz (r:aI):cg true (aF r)=true:=rfl
theorem i6 {α:Type} (f:List (aI × α)) (v:α→D) (r:aI):dD true (f.map fun p=>(aF p.1,v p.2)) (aF r)=(aO f r).map v:=by
  unfold dD aO
  rw[List.find?_map,Option.map_map,Option.map_map]
  congr 1
  congr 1
  funext p
  simp only[Function.comp_apply,im]
def io {α:Type} (f:List (aI × α)) (r:aI) (a:α):List (aI × α):=if (f.any fun p=>p.1=r) then f.map fun p=>if p.1=r then (p.1,a) else p else f++[(r,a)]
theorem zL {α:Type} (f:List (aI × α)) (v:α→D) (r:aI) (a:α):g5 true (f.map fun p=>(aF p.1,v p.2)) (aF r) (v a)=((if (f.any fun p=>p.1=r) then f.map fun p=>if p.1=r then (p.1,a) else p else f++[(r,a)]).map fun p=>(aF p.1,v p.2)):=by
  unfold g5
  rw[List.any_map]
  have e:((fun p:D × D=>keq true p.1 (aF r))∘fun p:aI × α=>(aF p.1,v p.2))=fun p=>decide (p.1=r):=by
    funext p
    simp only[Function.comp_apply,im]
  rw[e]
  split
  · rw[List.map_map,List.map_map]
    apply List.map_congr_left
    intro p _
    simp only[Function.comp_apply,im]
    by_cases h:p.1=r<;>simp[h]
  · simp
end DL
namespace DL
open PySem PySem.Spec PyProof.Rows L2 LamX
abbrev RR:=List (aI × aI)
theorem ao {α:Type} (f:List (aI × α)) (r q:aI) (a:α):aO (io f r a) q=if q=r then some a else aO f q:=by
  unfold aO io
  by_cases h:(f.any fun p=>p.1=r)=true
  · rw[if_pos h]
    rw[List.find?_map,Option.map_map]
    have e:((fun p:aI × α=>decide (p.1=q))∘fun p=>if p.1=r then (p.1,a) else p)=fun p=>decide (p.1=q):=by
      funext p
      simp only[Function.comp_apply]
      split<;>rfl
    rw[e]
    by_cases hq:q=r
    · subst hq
      rw[if_pos rfl]
      obtain ⟨p,hp,hpr⟩:=List.any_eq_true.mp h
      have:(f.find? fun p=>decide (p.1=q)).isSome=true:=List.find?_isSome.mpr ⟨p,hp,hpr⟩
      obtain ⟨p',hp'⟩:=Option.isSome_iff_exists.mp this
      have h2:=List.find?_some hp'
      rw[hp']
      simp at h2
      simp[h2]
    · rw[if_neg hq]
      cases hf:f.find? fun p=>decide (p.1=q) with
      | none=>rfl
      | some p'=>
        have h2:=List.find?_some hf
        simp at h2
        simp[h2,hq]
  · rw[if_neg h,List.find?_append]
    by_cases hq:q=r
    · subst hq
      have hn:f.find? (fun p=>decide (p.1=q))=none:=by
        rw[List.find?_eq_none]
        intro p hp hpr
        exact h (List.any_eq_true.mpr ⟨p,hp,hpr⟩)
      rw[hn,if_pos rfl]
      simp
    · rw[if_neg hq]
      cases hf:f.find? fun p=>decide (p.1=q) with
      | none=>simp[Ne.symm hq]
      | some p'=>simp
/-- b: {ride: the one ahead of it},a: {ride: the one behind it}: alike -/
def Mtc (b a:RR):Prop:=∀y x,aO b y=some x↔aO a x=some y
def Edg (N:aI→List aI) (b:RR):Prop:=∀y x,aO b y=some x→y∈N x
/-- what closes a search -/
structure Cls (N:aI→List aI) (b:RR) (L R:aI→Prop):Prop where
  out:∀x,L x→∀y∈N x,R y
  back:∀y,R y→∃x,L x∧aO b y=some x
theorem Cls.keep {N:aI→List aI} {b b':RR} {L R:aI→Prop} (h:Cls N b L R) (k:∀y,R y→aO b' y=aO b y):Cls N b' L R:=⟨h.out,fun y hy=>by rw[k y hy]; exact h.back y hy⟩
/-- what a search that could not leaves -/
structure GrF (N:aI→List aI) (b:RR) (x:aI) (met met':List aI):Prop where
  sub:∀y∈met,y∈met'
  all:∀y∈N x,y∈met'
  cl:∀y∈met',y∉met→∃x',aO b y=some x'∧∀z∈N x',z∈met'
/-- in a search -/
structure GrI (N:aI→List aI) (b:RR) (pre met met':List aI):Prop where
  sub:∀y∈met,y∈met'
  all:∀y∈pre,y∈met'
  cl:∀y∈met',y∉met→∃x',aO b y=some x'∧∀z∈N x',z∈met'
/-- what a search that could leaves -/
structure GrT (N:aI→List aI) (b a:RR) (x:aI) (met:List aI) (b' a':RR):Prop where
  t1:∀y∈met,aO b' y=aO b y
  t2:∃y,aO a' x=some y∧y∉met
  t3:∀z,z≠x→(∀y,aO a z=some y→y∈met)→aO a' z=aO a z
  t4:∀y z,z≠x→(aO b' y=some z↔aO a' z=some y)
  t4x:∀y,aO b' y=some x↔(aO a' x=some y∨aO a x=some y)
  t5:∀z,(aO a' z).isSome=true↔((aO a z).isSome=true∨z=x)
  t6:Edg N b'
  t7:∀L R,Cls N b L R→¬L x∧∀y,R y→aO b' y=aO b y
  t8:∀y z,aO b' y=some z→aO b y=some z∨aO b y≠none∨z=x∨(aO a z).isSome=true
section
variable {N:aI→List aI} {b a:RR} {x y:aI} {met m0:List aI}
theorem GrI.start:GrI N b [] met met:=⟨fun _ h=>h,nofun,fun y h n=>absurd h n⟩
theorem GrI.old {pre:List aI} (h:GrI N b pre met m0) (hy:y∈m0):GrI N b (pre++[y]) met m0:=⟨h.sub,fun z hz=>(List.mem_append.mp hz).elim (h.all z) fun e=>by rw[List.mem_singleton.mp e]; exact hy,h.cl⟩
theorem GrI.fail {pre m1:List aI} {x1:aI} (h:GrI N b pre met m0) (hb:aO b y=some x1) (hf:GrF N b x1 (m0++[y]) m1):GrI N b (pre++[y]) met m1 where
  sub:=fun z hz=>hf.sub z (List.mem_append_left _ (h.sub z hz))
  all:=fun z hz=>(List.mem_append.mp hz).elim (fun e=>hf.sub z (List.mem_append_left _ (h.all z e))) fun e=>by
    rw[List.mem_singleton.mp e]
    exact hf.sub y (by simp)
  cl:=fun z hz hn=>by
    by_cases h0:z∈m0
    · obtain ⟨x',h1,h2⟩:=h.cl z h0 hn
      exact ⟨x',h1,fun w hw=>hf.sub w (List.mem_append_left _ (h2 w hw))⟩
    · by_cases e:z=y
      · subst e
        exact ⟨x1,hb,hf.all⟩
      · exact hf.cl z hz (by simp[h0,e])
theorem GrI.done {met':List aI} (h:GrI N b (N x) met met'):GrF N b x met met':=⟨h.sub,h.all,h.cl⟩
theorem GrT.free (M:Mtc b a) (G:Edg N b) (hx:∀y,aO a x=some y→y∈met) (hy:y∈N x) (hm:y∉met) (hb:aO b y=none):GrT N b a x met (io b y x) (io a x y):=by
  have hne:∀w∈met,w≠y:=fun w hw e=>hm (e▸hw)
  have haz:∀z,aO a z≠some y:=fun z e=>by rw[(M y z).mpr e] at hb; cases hb
  refine ⟨fun w hw=>by rw[ao,if_neg (hne w hw)],⟨y,by rw[ao,if_pos rfl],hm⟩,fun z hz _=>by rw[ao,if_neg hz],fun w z hz=>?_,fun w=>?_,fun z=>?_,fun w z h=>?_,fun L R C=>?_,fun w z h=>?_⟩
  · rw[ao,ao,if_neg hz]
    by_cases e:w=y
    · subst e
      rw[if_pos rfl]
      exact ⟨fun e=>absurd (Option.some.inj e).symm hz,fun e=>absurd e (haz z)⟩
    · rw[if_neg e]
      exact M w z
  · rw[ao,ao,if_pos rfl]
    by_cases e:w=y
    · subst e
      rw[if_pos rfl]
      exact ⟨fun _=>.inl rfl,fun _=>rfl⟩
    · rw[if_neg e]
      exact ⟨fun h=>.inr ((M w x).mp h),fun h=>h.elim (fun h=>absurd (Option.some.inj h).symm e) (M w x).mpr⟩
  · rw[ao]
    by_cases e:z=x
    · simp[e]
    · simp[e]
  · rw[ao] at h
    by_cases e:w=y
    · subst e
      rw[if_pos rfl] at h
      cases h
      exact hy
    · rw[if_neg e] at h
      exact G w z h
  · have nx:¬L x:=fun h=>by
      obtain ⟨x',_,e⟩:=C.back y (C.out x h y hy)
      rw[hb] at e
      cases e
    refine ⟨nx,fun w hw=>?_⟩
    rw[ao,if_neg]
    rintro rfl
    obtain ⟨x',_,e⟩:=C.back w hw
    rw[hb] at e
    cases e
  · rw[ao] at h
    by_cases e:w=y
    · subst e
      rw[if_pos rfl] at h
      cases h
      exact .inr (.inr (.inl rfl))
    · rw[if_neg e] at h
      exact .inl h
theorem GrT.step {x1:aI} {b1 a1:RR} (M:Mtc b a) (I:∀z∈met,z∈m0) (hx:∀y,aO a x=some y→y∈met) (hy:y∈N x) (hm:y∉m0) (hb:aO b y=some x1) (T:GrT N b a x1 (m0++[y]) b1 a1):GrT N b a x met (io b1 y x) (io a1 x y):=by
  have hym:y∉met:=fun h=>hm (I y h)
  have hne:∀w∈met,w≠y:=fun w hw e=>hym (e▸hw)
  have ha1:aO a x1=some y:=(M y x1).mp hb
  have hxx:x≠x1:=fun e=>by
    subst e
    exact hym (hx y ha1)
  have up:∀w∈met,w∈m0++[y]:=fun w hw=>List.mem_append_left _ (I w hw)
  have yin:y∈m0++[y]:=by simp
  have hby:aO b1 y=some x1:=by rw[T.t1 y yin,hb]
  have hax:aO a1 x=aO a x:=T.t3 x hxx fun w hw=>up w (hx w hw)
  obtain ⟨y1,e1,n1⟩:=T.t2
  have hy1:y1≠y:=fun e=>n1 (e▸yin)
  refine ⟨fun w hw=>by rw[ao,if_neg (hne w hw),T.t1 w (up w hw)],⟨y,by rw[ao,if_pos rfl],hym⟩,fun z hz h=>?_,fun w z hz=>?_,fun w=>?_,fun z=>?_,fun w z h=>?_,fun L R C=>?_,fun w z h=>?_⟩
  · rw[ao,if_neg hz]
    refine T.t3 z (fun e=>?_) fun w hw=>up w (h w hw)
    subst e
    exact hym (h y ha1)
  · rw[ao,ao,if_neg hz]
    by_cases e:w=y
    · subst e
      rw[if_pos rfl]
      refine ⟨fun e=>absurd (Option.some.inj e).symm hz,fun e=>?_⟩
      by_cases hz1:z=x1
      · subst hz1
        rw[e1] at e
        exact absurd (Option.some.inj e) hy1
      · have:=(T.t4 w z hz1).mpr e
        rw[hby] at this
        exact absurd (Option.some.inj this).symm hz1
    · rw[if_neg e]
      by_cases hz1:z=x1
      · subst hz1
        rw[T.t4x w]
        exact ⟨fun h=>h.elim id fun h=>by
          rw[ha1] at h
          exact absurd (Option.some.inj h).symm e,.inl⟩
      · exact T.t4 w z hz1
  · rw[ao,ao,if_pos rfl]
    by_cases e:w=y
    · subst e
      rw[if_pos rfl]
      exact ⟨fun _=>.inl rfl,fun _=>rfl⟩
    · rw[if_neg e,T.t4 w x hxx,hax]
      exact ⟨.inr,fun h=>h.elim (fun h=>absurd (Option.some.inj h).symm e) id⟩
  · rw[ao]
    by_cases e:z=x
    · simp[e]
    · rw[if_neg e,T.t5 z]
      constructor
      · rintro (h|h)
        · exact .inl h
        · subst h
          rw[ha1]
          exact .inl rfl
      · rintro (h|h)
        · exact .inl h
        · exact absurd h e
  · rw[ao] at h
    by_cases e:w=y
    · subst e
      rw[if_pos rfl] at h
      cases h
      exact hy
    · rw[if_neg e] at h
      exact T.t6 w z h
  · obtain ⟨n1,k1⟩:=T.t7 L R C
    have nR:¬R y:=fun h=>by
      obtain ⟨x',h1,e⟩:=C.back y h
      rw[hb] at e
      cases e
      exact n1 h1
    refine ⟨fun h=>nR (C.out x h y hy),fun w hw=>?_⟩
    rw[ao,if_neg]
    · exact k1 w hw
    · rintro rfl
      exact nR hw
  · rw[ao] at h
    by_cases e:w=y
    · subst e
      exact .inr (.inl (by rw[hb]; exact fun z=>nomatch z))
    · rw[if_neg e] at h
      rcases T.t8 w z h with h|h|h|h
      · exact .inl h
      · exact .inr (.inl h)
      · subst h
        exact .inr (.inr (.inr (by rw[ha1]; rfl)))
      · exact .inr (.inr (.inr h))
/-- as some rides are tried -/
structure Mxm (N:aI→List aI) (pre:List aI) (b a:RR):Prop where
  m:Mtc b a
  g:Edg N b
  k:∀z,(aO a z).isSome=true→z∈pre
  c:∀z∈pre,aO a z=none→∃L R,Cls N b L R∧L z
theorem Mxm.nil:Mxm N [] [] [] where
  m:=fun y x=>by simp[aO]
  g:=fun y x h=>by simp[aO] at h
  k:=fun z h=>by simp[aO] at h
  c:=fun z hz=>nomatch hz
theorem Mxm.no {pre met':List aI} (h:Mxm N pre b a) (hf:GrF N b x [] met'):Mxm N (pre++[x]) b a:=by
  refine ⟨h.m,h.g,fun z hz=>List.mem_append_left _ (h.k z hz),fun z hz hn=>?_⟩
  rcases List.mem_append.mp hz with hz|hz
  · exact h.c z hz hn
  · rw[List.mem_singleton.mp hz]
    refine ⟨fun w=>w=x∨∃y∈met',aO b y=some w,fun y=>y∈met',⟨fun w hw y hy=>?_,fun y hy=>?_⟩,.inl rfl⟩
    · rcases hw with rfl|⟨y',h1,h2⟩
      · exact hf.all y hy
      · obtain ⟨x',e,h3⟩:=hf.cl y' h1 List.not_mem_nil
        rw[h2] at e
        cases e
        exact h3 y hy
    · obtain ⟨x',e,_⟩:=hf.cl y hy List.not_mem_nil
      exact ⟨x',.inr ⟨y,hy,e⟩,e⟩
theorem Mxm.yes {pre:List aI} {b' a':RR} (h:Mxm N pre b a) (hx:x∉pre) (T:GrT N b a x [] b' a'):Mxm N (pre++[x]) b' a':=by
  have hax:aO a x=none:=by
    cases e:aO a x with
    | none=>rfl
    | some y=>exact absurd (h.k x (by rw[e]; rfl)) hx
  refine ⟨fun y z=>?_,T.t6,fun z hz=>?_,fun z hz hn=>?_⟩
  · by_cases e:z=x
    · subst e
      rw[T.t4x y,hax]
      simp
    · exact T.t4 y z e
  · rcases (T.t5 z).mp hz with h1|h1
    · exact List.mem_append_left _ (h.k z h1)
    · simp[h1]
  · have hzx:z≠x:=fun e=>by
      obtain ⟨y,h1,_⟩:=T.t2
      rw[e,h1] at hn
      cases hn
    have hz:z∈pre:=by simpa [hzx] using hz
    have hza:aO a z=none:=by
      cases e:aO a z with
      | none=>rfl
      | some y=>
        have:=(T.t5 z).mpr (.inl (by rw[e]; rfl))
        rw[hn] at this
        cases this
    obtain ⟨L,R,C,hL⟩:=h.c z hz hza
    exact ⟨L,R,C.keep (T.t7 L R C).2,hL⟩
end
end DL
namespace DL
open PySem PySem.Spec PyProof.Rows L2 LamX
/-- whether a plane may do y behind x -/
def cf (ls:List Leg) (turn:Int) (x y:aI):Bool:=decide (oE ls x=ja ls y)&&decide (kL ls x+turn≤bB ls y)
def nxf (ls:List Leg) (turn:Int) (rides:List aI) (x:aI):List aI:=rides.filter fun y=>cf ls turn x y
section
variable {S:Sto} {l:Nat} {ps:List (Str × Int)} {ls:List Leg} {turn:Int} {x y:aI}
theorem kR (h:NetOk ps ls) {r:aI} (hr:HasLeg ls r.2):PyData.strOk (ja ls r)=true∧PyData.strOk (oE ls r)=true:=by
  have ok:=h.legs _ (i4 hr)
  exact ⟨(fE _ (h.sub _ ok.s)).2.2,(fE _ (h.sub _ ok.g)).2.2⟩
theorem jI (H:NetOk ps ls) (N:NetAt S l ps ls) (hx:HasLeg ls x.2) (hy:HasLeg ls y.2):br [.loc l,.int turn,aF x,aF y] S=.ok (.bool (cf ls turn x y)) S:=by
  apply af
  unfold br
  apply aX
  unfold j5
  have e1:=zI N hx
  have e2:=xL N hy
  have e3:=vO N hx
  have e4:=po N hy
  have o1:=(kR H hx).2
  have o2:=(kR H hy).1
  obtain ⟨c,g,h1,h2,h3⟩:=N.ex
  simp -dsimp [h1,e1,e2,e3,e4,o1,o2]
  by_cases h:oE ls x=ja ls y
  · simp -dsimp [h,cf]
  · simp -dsimp [h,cf]
theorem mL {S:Sto} {l:Nat} {t:Bool} {kvs:List (D × D)} {a:D} (h:S[l]?=some (.dct t kvs)):dIn S a (.loc l)=if cg t a=true then some (dD t kvs a).isSome else none:=by
  simp[dIn,h]
end
/-- a dict of rides by rides -/
def rrK (b:RR):List (D × D):=b.map fun p=>(aF p.1,aF p.2)
/-- a dict whose keys are rides,each True -/
def dM (m:List aI):List (D × D):=m.map fun r=>(aF r,.bool true)
theorem gv (b:RR) (r:aI):dD true (rrK b) (aF r)=(aO b r).map aF:=i6 b aF r
theorem qt (b:RR) (r q:aI):g5 true (rrK b) (aF r) (aF q)=rrK (io b r q):=zL b aF r q
theorem xN (m:List aI) (r:aI):(dD true (dM m) (aF r)).isSome=decide (r∈m):=by
  have h:=i6 (m.map fun r=>(r,())) (fun _=>D.bool true) r
  rw[List.map_map] at h
  have e:dM m=m.map ((fun p:aI × Unit=>(aF p.1,D.bool true))∘fun r=>(r,())):=rfl
  rw[e,h,Option.isSome_map,Bool.eq_iff_iff,decide_eq_true_eq]
  unfold aO
  rw[Option.isSome_map,List.find?_isSome]
  constructor
  · rintro ⟨q,h1,h2⟩
    obtain ⟨r',h3,rfl⟩:=List.mem_map.mp h1
    have:r'=r:=by simpa using h2
    exact this▸h3
  · intro h1
    exact ⟨(r,()),List.mem_map.mpr ⟨r,h1,rfl⟩,by simp⟩
theorem zM {m:List aI} {r:aI} (h:r∉m):g5 true (dM m) (aF r) (.bool true)=dM (m++[r]):=by
  unfold g5 dM
  rw[if_neg]
  · simp
  · simp only[List.any_eq_true,not_exists,not_and,List.mem_map,forall_exists_index,and_imp]
    rintro p q hq rfl
    rw[im]
    simp
    rintro rfl
    exact h hq
/-- all else stands -/
structure Fr (l:List Nat) (S S':Sto):Prop where
  len:S'.length=S.length
  same:∀i,i∉l→S'[i]?=S[i]?
theorem Fr.refl (l:List Nat) (S:Sto):Fr l S S:=⟨rfl,fun _ _=>rfl⟩
theorem Fr.trans {l:List Nat} {S S' S'':Sto} (h:Fr l S S') (h2:Fr l S' S''):Fr l S S'':=⟨h2.len.trans h.len,fun i hi=>(h2.same i hi).trans (h.same i hi)⟩
theorem Fr.set {l:List Nat} {S:Sto} {i:Nat} (h:i∈l) (o:O):Fr l S (S.set i o):=⟨by simp,fun j hj=>by rw[List.getElem?_set_ne]; rintro rfl; exact hj h⟩
theorem Fr.mono {l l':List Nat} {S S':Sto} (h:Fr l S S') (k:∀i∈l,i∈l'):Fr l' S S':=⟨h.len,fun i hi=>h.same i fun z=>hi (k i z)⟩
/-- where a Matcher's parts lie -/
structure MaP where
  m:Nat
  c:Nat
  n:Nat
  b:Nat
  a:Nat
structure MaP.Ok (p:MaP):Prop where
  mb:p.m≠p.b
  ma:p.m≠p.a
  cb:p.c≠p.b
  ca:p.c≠p.a
  nb:p.n≠p.b
  na:p.n≠p.a
  ba:p.b≠p.a
structure MtA (S:Sto) (p:MaP) (rides:List aI) (N:aI→List aI) (b a:RR):Prop where
  ok:p.Ok
  m:S[p.m]?=some (.ins "Matcher" [("every",.loc p.c),("nexts",.loc p.n),("behind",.loc p.b),("ahead",.loc p.a)])
  c:S[p.c]?=some (.lst (rides.map aF))
  n:S[p.n]?=some (.dct true (rides.map fun x=>(aF x,.lst ((N x).map aF))))
  b:S[p.b]?=some (.dct true (rrK b))
  a:S[p.a]?=some (.dct true (rrK a))
theorem MtA.fr {S S':Sto} {p:MaP} {rides:List aI} {N:aI→List aI} {b a:RR} {l:List Nat} (h:MtA S p rides N b a) (f:Fr l S S') (hm:p.m∉l) (hc:p.c∉l) (hn:p.n∉l) (hb:p.b∉l) (ha:p.a∉l):MtA S' p rides N b a:=
  ⟨h.ok,by rw[f.same _ hm]; exact h.m,by rw[f.same _ hc]; exact h.c,by rw[f.same _ hn]; exact h.n,by rw[f.same _ hb]; exact h.b,by rw[f.same _ ha]; exact h.a⟩
theorem MtA.setB {S:Sto} {p:MaP} {rides:List aI} {N:aI→List aI} {b a:RR} (h:MtA S p rides N b a) (b':RR):MtA (S.set p.b (.dct true (rrK b'))) p rides N b' a:=by
  have hl:=(List.getElem?_eq_some_iff.mp h.b).1
  exact ⟨h.ok,by rw[List.getElem?_set_ne h.ok.mb.symm]; exact h.m,by rw[List.getElem?_set_ne h.ok.cb.symm]; exact h.c,by rw[List.getElem?_set_ne h.ok.nb.symm]; exact h.n,by rw[List.getElem?_set_self hl],by rw[List.getElem?_set_ne h.ok.ba]; exact h.a⟩
theorem MtA.setA {S:Sto} {p:MaP} {rides:List aI} {N:aI→List aI} {b a:RR} (h:MtA S p rides N b a) (a':RR):MtA (S.set p.a (.dct true (rrK a'))) p rides N b a':=by
  have hl:=(List.getElem?_eq_some_iff.mp h.a).1
  exact ⟨h.ok,by rw[List.getElem?_set_ne h.ok.ma.symm]; exact h.m,by rw[List.getElem?_set_ne h.ok.ca.symm]; exact h.c,by rw[List.getElem?_set_ne h.ok.na.symm]; exact h.n,by rw[List.getElem?_set_ne h.ok.ba.symm]; exact h.b,by rw[List.getElem?_set_self hl]⟩
section
variable {S:Sto} {p:MaP} {rides:List aI} {N:aI→List aI} {b a:RR}
theorem MtA.nexts (h:MtA S p rides N b a) {x:aI} (hx:x∈rides):fIx S (.loc p.n) (aF x)=some (.lst ((N x).map aF)):=by
  rw[jv h.n,bz,if_pos rfl]
  have e:=i6 (rides.map fun x=>(x,N x)) (fun l=>D.lst (l.map aF)) x
  rw[List.map_map] at e
  have e2:(rides.map fun x=>(aF x,D.lst ((N x).map aF)))=rides.map ((fun p:aI × List aI=>(aF p.1,D.lst (p.2.map aF)))∘fun x=>(x,N x)):=rfl
  rw[e2,e]
  have:aO (rides.map fun x=>(x,N x)) x=some (N x):=by
    unfold aO
    rw[List.find?_map,Option.map_map]
    have h2:(rides.find? ((fun p:aI × List aI=>decide (p.1=x))∘fun x=>(x,N x))).isSome=true:=List.find?_isSome.mpr ⟨x,hx,by simp⟩
    obtain ⟨q,hq⟩:=Option.isSome_iff_exists.mp h2
    have h3:=List.find?_some hq
    simp at h3
    subst h3
    rw[hq]
    rfl
  rw[this]
  rfl
theorem MtA.inB (h:MtA S p rides N b a) (y:aI):dIn S (aF y) (.loc p.b)=some (aO b y).isSome:=by
  rw[mL h.b,bz,if_pos rfl,gv,Option.isSome_map]
theorem MtA.inA (h:MtA S p rides N b a) (y:aI):dIn S (aF y) (.loc p.a)=some (aO a y).isSome:=by
  rw[mL h.a,bz,if_pos rfl,gv,Option.isSome_map]
theorem MtA.ixB (h:MtA S p rides N b a) {y x:aI} (e:aO b y=some x):fIx S (.loc p.b) (aF y)=some (aF x):=by
  rw[jv h.b,bz,if_pos rfl,gv,e]; rfl
theorem MtA.ixA (h:MtA S p rides N b a) {y x:aI} (e:aO a y=some x):fIx S (.loc p.a) (aF y)=some (aF x):=by
  rw[jv h.a,bz,if_pos rfl,gv,e]; rfl
theorem uC {t:Nat} {m:List aI} (h:S[t]?=some (.dct true (dM m))) (y:aI):dIn S (aF y) (.loc t)=some (decide (y∈m)):=by
  rw[mL h,bz,if_pos rfl,xN]
theorem vQ {t:Nat} {m:List aI} (h:S[t]?=some (.dct true (dM m))) (hl:m.length<1000000) {y:aI} (hy:y∉m):bY S (.loc t) (aF y) (.bool true)=some (S.set t (.dct true (dM (m++[y])))):=by
  have hl2:(dM m).length<1000000:=by unfold dM; simpa using hl
  simp[bY,h,hl2,zM hy]
theorem MtA.putB (h:MtA S p rides N b a) (hl:b.length<1000000) (y x:aI):bY S (.loc p.b) (aF y) (aF x)=some (S.set p.b (.dct true (rrK (io b y x)))):=by
  have hl2:(rrK b).length<1000000:=by unfold rrK; simpa using hl
  simp[bY,h.b,hl2,qt]
theorem MtA.putA (h:MtA S p rides N b a) (hl:a.length<1000000) (y x:aI):bY S (.loc p.a) (aF y) (aF x)=some (S.set p.a (.dct true (rrK (io a y x)))):=by
  have hl2:(rrK a).length<1000000:=by unfold rrK; simpa using hl
  simp[bY,h.a,hl2,qt]
end
end DL
namespace DL
open PySem PySem.Spec PyProof.Rows L2 LamX
theorem dN {α:Type} [DecidableEq α]:∀ {l m:List α},l.Nodup→(∀x∈l,x∈m)→l.length≤m.length
  | [],_,_,_=>Nat.zero_le _
  | x::l,m,nd,h=>by
    rw[List.nodup_cons] at nd
    have hx:=h x List.mem_cons_self
    have:=dN (m:=m.erase x) nd.2 fun y hy=>(List.mem_erase_of_ne fun e=>nd.1 (by rw[←e]; exact hy)).mpr (h y (List.mem_cons_of_mem _ hy))
    rw[List.length_erase_of_mem hx] at this
    have:=List.length_pos_of_mem hx
    rw[List.length_cons]
    omega
structure Wf (rides:List aI) (b:RR):Prop where
  nd:(b.map (·.1)).Nodup
  ks:∀p∈b,p.1∈rides
  vs:∀p∈b,p.2∈rides
section
variable {rides:List aI} {b:RR} {x y:aI}
theorem Wf.nil:Wf rides []:=⟨by simp,nofun,nofun⟩
theorem Wf.len (h:Wf rides b):b.length≤rides.length:=by
  have:=dN h.nd (m:=rides) fun k hk=>by
    obtain ⟨p,hp,rfl⟩:=List.mem_map.mp hk
    exact h.ks p hp
  simpa using this
theorem Wf.look (h:Wf rides b) (e:aO b y=some x):x∈rides:=h.vs _ (oK e)
theorem Wf.put (h:Wf rides b) (hy:y∈rides) (hx:x∈rides):Wf rides (io b y x):=by
  unfold io
  split
  · refine ⟨?_,fun p hp=>?_,fun p hp=>?_⟩
    · rw[List.map_map]
      have e:(b.map ((fun p:aI × aI=>p.1)∘fun p=>if p.1=y then (p.1,x) else p))=b.map (·.1):=List.map_congr_left fun p _=>by
        simp only[Function.comp_apply]
        split<;>rfl
      rw[e]
      exact h.nd
    · obtain ⟨q,hq,rfl⟩:=List.mem_map.mp hp
      split
      · exact h.ks q hq
      · exact h.ks q hq
    · obtain ⟨q,hq,rfl⟩:=List.mem_map.mp hp
      split
      · exact hx
      · exact h.vs q hq
  · rename_i hn
    refine ⟨?_,fun p hp=>?_,fun p hp=>?_⟩
    · rw[List.map_append,List.nodup_append]
      refine ⟨h.nd,by simp,fun k hk k2 hk2 e=>hn ?_⟩
      obtain ⟨q,hq,rfl⟩:=List.mem_map.mp hk
      simp at hk2
      exact List.any_eq_true.mpr ⟨q,hq,by simp[e,hk2]⟩
    · rcases List.mem_append.mp hp with hp|hp
      · exact h.ks p hp
      · rw[List.mem_singleton.mp hp]; exact hy
    · rcases List.mem_append.mp hp with hp|hp
      · exact h.vs p hp
      · rw[List.mem_singleton.mp hp]; exact hx
end
/-- what grow tells and leaves -/
structure GrR (S:Sto) (p:MaP) (rides:List aI) (N:aI→List aI) (t:Nat) (b a:RR) (x:aI) (met:List aI) (v:D) (S':Sto):Prop where
  ex:∃(r:Bool) (met':List aI) (b' a':RR),v=.bool r∧MtA S' p rides N b' a'∧S'[t]?=some (.dct true (dM met'))∧Fr [t,p.b,p.a] S S'∧met'.Nodup∧(∀y∈met',y∈rides)∧Wf rides b'∧Wf rides a'∧
    (r=false→b'=b∧a'=a∧GrF N b x met met')∧(r=true→GrT N b a x met b' a')
structure GrL (S:Sto) (p:MaP) (rides:List aI) (N:aI→List aI) (t:Nat) (b a:RR) (x:aI) (met pre:List aI) (env:En) (S':Sto):Prop where
  ex:∃(m0:List aI) (e3:Option D),env=[some (.loc p.m),some (aF x),some (.loc t),e3]∧MtA S' p rides N b a∧S'[t]?=some (.dct true (dM m0))∧Fr [t,p.b,p.a] S S'∧m0.Nodup∧(∀y∈m0,y∈rides)∧GrI N b pre met m0
structure Off (t:Nat) (p:MaP):Prop where
  m:t≠p.m
  c:t≠p.c
  n:t≠p.n
  b:t≠p.b
  a:t≠p.a
section
variable {p:MaP} {rides:List aI} {N:aI→List aI} {t:Nat}
theorem Am (hN:∀x∈rides,∀y∈N x,y∈rides) (hl:rides.length≤100000) (ht:Off t p):∀(n:Nat) (S:Sto) (x:aI) (met:List aI) (b a:RR),MtA S p rides N b a→S[t]?=some (.dct true (dM met))→x∈rides→met.Nodup→(∀y∈met,y∈rides)→Wf rides b→Wf rides a→
    Mtc b a→Edg N b→(∀y,aO a x=some y→y∈met)→rides.length<met.length+n→Res.wp (bf n [.loc p.m,aF x,.loc t] S) (GrR S p rides N t b a x met) NoE:=by
  intro n
  induction n with
  | zero=>
    intro S x met b a h hm hx nd hs wb wa M G hax hn
    have:=dN nd hs
    omega
  | succ n ih=>
    intro S x met b a h hm hx nd hs wb wa M G hax hn
    have hbl:=wb.len
    have hal:=wa.len
    unfold bf
    apply aX
    have e1:=h.nexts hx
    have m1:=h.m
    simp -dsimp [m1,e1]
    refine dU (f:=aF) (N x) (fun pre _=>GrL S p rides N t b a x met pre) rfl ⟨met,none,rfl,h,hm,.refl _ _,nd,hs,.start⟩ ?_ ?_
    · rintro pre y rest env S1 hp ⟨m0,e3,rfl,h1,hm1,f1,nd1,hs1,I⟩
      refine ⟨_,rfl,?_⟩
      have hyN:y∈N x:=by rw[←hp]; simp
      have hy:=hN x hx y hyN
      have i1:=uC hm1 y
      have m2:=h1.m
      have hml:=dN nd1 hs1
      by_cases hym:y∈m0
      · simp -dsimp [i1,hym]
        exact ⟨m0,_,rfl,h1,hm1,f1,nd1,hs1,I.old hym⟩
      · have p1:=vQ hm1 (by omega) hym
        simp -dsimp [i1,hym,p1]
        have htl:=(List.getElem?_eq_some_iff.mp hm1).1
        have f2:Fr [t] S1 (S1.set t (.dct true (dM (m0++[y])))):=.set (by simp) _
        have h2:MtA (S1.set t (.dct true (dM (m0++[y])))) p rides N b a:=h1.fr f2 (by simpa using ht.m.symm) (by simpa using ht.c.symm) (by simpa using ht.n.symm) (by simpa using ht.b.symm) (by simpa using ht.a.symm)
        have hm2:(S1.set t (.dct true (dM (m0++[y]))))[t]?=some (.dct true (dM (m0++[y]))):=by rw[List.getElem?_set_self htl]
        have f3:Fr [t,p.b,p.a] S (S1.set t (.dct true (dM (m0++[y])))):=f1.trans (f2.mono (by simp))
        generalize S1.set t (.dct true (dM (m0++[y])))=S2 at h2 hm2 f3
        have m3:=h2.m
        have i2:=h2.inB y
        have nd2:(m0++[y]).Nodup:=by
          rw[List.nodup_append]
          exact ⟨nd1,by simp,fun u hu w hw e=>hym (by rw[←List.mem_singleton.mp hw,←e]; exact hu)⟩
        have hs2:∀z∈m0++[y],z∈rides:=fun z hz=>(List.mem_append.mp hz).elim (hs1 z) fun e=>by rw[List.mem_singleton.mp e]; exact hy
        -- both dicts are told of it
        have fin:∀(S3:Sto) (b1 a1:RR) (m3:List aI),MtA S3 p rides N b1 a1→S3[t]?=some (.dct true (dM m3))→Fr [t,p.b,p.a] S S3→m3.Nodup→(∀z∈m3,z∈rides)→Wf rides b1→Wf rides a1→GrT N b a x met (io b1 y x) (io a1 x y)→
            ∃S4,bY S3 (.loc p.b) (aF y) (aF x)=some S4∧S4[p.m]?=S3[p.m]?∧∃S5,bY S4 (.loc p.a) (aF x) (aF y)=some S5∧GrR S p rides N t b a x met (.bool true) S5:=by
          intro S3 b1 a1 m3 k1 k2 k3 k4 k5 k6 k7 k8
          have l6:=k6.len
          have l7:=k7.len
          have q1:=k1.setB (io b1 y x)
          refine ⟨_,k1.putB (by omega) y x,by rw[List.getElem?_set_ne k1.ok.mb.symm],_,q1.putA (by omega) x y,⟨true,m3,_,_,rfl,q1.setA _,?_,k3.trans ((Fr.set (by simp) _).trans (.set (by simp) _)),k4,k5,k6.put hy hx,k7.put hx hy,nofun,fun _=>k8⟩⟩
          rw[List.getElem?_set_ne ht.a.symm,List.getElem?_set_ne ht.b.symm]
          exact k2
        cases hby:aO b y with
        | none=>
          obtain ⟨S4,r1,r2,S5,r3,r4⟩:=fin S2 b a (m0++[y]) h2 hm2 f3 nd2 hs2 wb wa (.free M G hax hyN (fun z=>hym (I.sub y z)) hby)
          have r5:=r2.trans m3
          simp -dsimp [m3,i2,hby,r1,r5,r3]
          exact r4
        | some x1=>
          have hx1:=wb.look hby
          have r0:=h2.ixB hby
          simp -dsimp [m3,i2,hby,r0]
          refine dR (ih S2 x1 (m0++[y]) b a h2 hm2 hx1 nd2 hs2 wb wa M G (fun z hz=>?_) (by have:=dN nd hs; have:=dN nd I.sub; simp; omega)) ?_
          · rw[(M y x1).mp hby] at hz
            cases hz
            simp
          · rintro v S3 ⟨r,m3,b1,a1,rfl,k1,k2,k3,k4,k5,k6,k7,kf,kt⟩
            have m4:=k1.m
            cases r with
            | false=>
              obtain ⟨eb,ea,kf2⟩:=kf rfl
              rw[eb,ea] at k1
              simp -dsimp
              exact ⟨m3,_,rfl,k1,k2,f3.trans k3,k4,k5,I.fail hby kf2⟩
            | true=>
              obtain ⟨S4,r1,r2,S5,r3,r4⟩:=fin S3 b1 a1 m3 k1 k2 (f3.trans k3) k4 k5 k6 k7 (.step M I.sub hax hyN hym hby (kt rfl))
              have r5:=r2.trans m4
              simp -dsimp [m4,r1,r5,r3]
              exact r4
    · rintro env S1 ⟨m0,e3,rfl,h1,hm1,f1,nd1,hs1,I⟩
      simp -dsimp
      exact ⟨false,m0,b,a,rfl,h1,hm1,f1,nd1,hs1,wb,wa,fun _=>⟨rfl,rfl,I.done⟩,nofun⟩
end
end DL
namespace DL
open PySem PySem.Spec PyProof.Rows L2 LamX
theorem uD {acc:List (aI × D)} {r:aI} {v:D} (h:r∉acc.map (·.1)):g5 true (acc.map fun p=>(aF p.1,p.2)) (aF r) v=(acc++[(r,v)]).map fun p=>(aF p.1,p.2):=by
  unfold g5
  rw[if_neg]
  · simp
  · simp only[List.any_eq_true,not_exists,not_and,List.mem_map,forall_exists_index,and_imp]
    rintro p q hq rfl
    rw[im]
    simp
    rintro rfl
    exact h (List.mem_map.mpr ⟨q,hq,rfl⟩)
theorem jJ {g:MG} {tc:MT} {mk mv:ME} {w:En} {S:Sto} {l:Nat} (rides:List aI) (v:aI→D) (nd:rides.Nodup) (hl:rides.length≤1000000) (hS:S[l]?=some (.lst (rides.map aF)))
    (hx:∀x∈rides,∃e,g (aF x) w S=some (e,S)∧tc e S=.ok true S∧mk e S=.ok (aF x) S∧mv e S=.ok (v x) S):cz g tc mk mv w l (dB S l+1) 0 [] S=.ok (rides.map fun x=>(aF x,v x)) S:=by
  have hlen:dB S l=rides.length:=by simp[dB,hS]
  rw[hlen]
  have loop:∀(rest pre:List aI),pre++rest=rides→cz g tc mk mv w l (rest.length+1) pre.length ((pre.map fun x=>(x,v x)).map fun p=>(aF p.1,p.2)) S=.ok (rides.map fun x=>(aF x,v x)) S:=by
    intro rest
    induction rest with
    | nil=>
      intro pre e
      rw[List.append_nil] at e
      subst e
      unfold cz
      simp only[hS]
      rw[show (pre.map aF)[pre.length]?=none by simp]
      simp
    | cons x rest ih=>
      intro pre e
      obtain ⟨e1,h1,h2,h3,h4⟩:=hx x (by rw[←e]; simp)
      rw[List.length_cons]
      unfold cz
      simp only[hS]
      rw[show (rides.map aF)[pre.length]?=some (aF x) by rw[←e]; simp]
      have hn:x∉(pre.map fun x=>(x,v x)).map (·.1):=fun hm=>by
        rw[List.map_map] at hm
        obtain ⟨z,hz,rfl⟩:=List.mem_map.mp hm
        rw[←e,List.nodup_append] at nd
        exact nd.2.2 _ hz _ List.mem_cons_self rfl
      have hpl:(((pre.map fun x=>(x,v x)).map fun p=>(aF p.1,p.2)):List (D × D)).length<1000000:=by
        have:(pre++x::rest).length=rides.length:=by rw[e]
        simp at this ⊢
        omega
      unfold g8
      simp only[h1,h2,h3,h4,bZ,if_true,bz,hpl,and_self]
      rw[uD hn]
      have:=ih (pre++[x]) (by rw[←e]; simp)
      simp only[List.map_append,List.map_cons,List.map_nil,List.length_append,List.length_cons,List.length_nil] at this ⊢
      exact this
  exact loop rides [] rfl
/-- what is left of a new Matcher -/
structure InI (S:Sto) (p:MaP) (l:Nat) (turn:Int) (rides:List aI) (N:aI→List aI) (pre:List aI) (env:En) (S':Sto):Prop where
  ex:∃(b a:RR) (x4 x5 x6:Option D),env=[some (.loc p.m),some (.loc l),some (.int turn),some (.loc p.c),x4,x5,x6]∧MtA S' p rides N b a∧(∀i,i<S.length→S'[i]?=S[i]?)∧S.length+4≤S'.length∧Wf rides b∧Wf rides a∧Mxm N pre b a
structure InR (S:Sto) (p:MaP) (rides:List aI) (N:aI→List aI) (S':Sto):Prop where
  ex:∃(b a:RR),MtA S' p rides N b a∧(∀i,i<S.length→S'[i]?=S[i]?)∧S.length≤S'.length∧Wf rides b∧Wf rides a∧Mxm N rides b a
section
variable {S:Sto} {l c:Nat} {ps:List (Str × Int)} {ls:List Leg} {turn:Int} {rides:List aI}
theorem zN {w:En} (H:NetOk ps ls) (NA:NetAt S l ps ls) (hc:S[c]?=some (.lst (rides.map aF))) (hr:∀r∈rides,HasLeg ls r.2) (hl:rides.length≤100000) {x:aI} (hx:x∈rides) (h1:w[1]?=some (some (.loc l))) (h2:w[2]?=some (some (.int turn))) (h3:w[3]?=some (some (.loc c))) (h5:w[5]?=some (some (aF x))) (hw:6<w.length) :
    b6 (cM (eV 3)) (gV 6) (cB (aS 4 br (aC (eV 1) (aC (eV 2) (aC (eV 5) (aC (eV 6) (aJ))))))) (eV 6) [6] w S=.ok (.lst ((nxf ls turn rides x).map aF)) S:=by
  apply af
  have hit:bO S (.loc c)=some (.live c):=by simp[bO,hc]
  simp -dsimp [h3,hit]
  refine eW (f:=aF) rides (fun y=>cf ls turn x y) aF (by omega) hc (fun y hy=>⟨_,rfl,?_,fun _=>?_⟩) ?_
  · have e:=jI (turn:=turn) H NA (hr x hx) (hr y hy)
    apply af
    simp -dsimp [aU,h1,h2,h5,e,hw]
  · apply af
    simp -dsimp [aU,hw]
  · rw[eh]
    exact ⟨rfl,rfl⟩
theorem qu (H:NetOk ps ls) (NA:NetAt S l ps ls) (hc:S[c]?=some (.lst (rides.map aF))) (hr:∀r∈rides,HasLeg ls r.2) (nd:rides.Nodup) (hl:rides.length≤119) :
    Res.wp (cW [.loc S.length,.loc l,.int turn,.loc c] (S++[.ins "Matcher" []])) (fun v S'=>v=.none∧InR S ⟨S.length,c,S.length+1,S.length+2,S.length+3⟩ rides (nxf ls turn rides) S') NoE:=by
  have hcl:=(List.getElem?_eq_some_iff.mp hc).1
  obtain ⟨p,hp⟩:∃p:MaP,p=⟨S.length,c,S.length+1,S.length+2,S.length+3⟩:=⟨_,rfl⟩
  have pok:p.Ok:=by
    subst hp
    constructor<;>simp<;>omega
  rw[←hp]
  unfold cW
  apply aX
  unfold gk
  have g1:∀x:O,(S++[x])[S.length]?=some x:=fun x=>by simp
  have s1:∀y z:O,(S++[y]).set S.length z=S++[z]:=fun y z=>by rw[wF]; rfl
  have c1:∀T:Sto,(S++T)[c]?=some (.lst (rides.map aF)):=fun T=>ah hc T
  have hit:∀T:Sto,bO (S++T) (.loc c)=some (.live c):=fun T=>by simp[bO,c1 T]
  simp -dsimp [g1,s1,hit,iK]
  have hd:∀T:Sto,cz (gV 5) cD (eV 5) (b6 (cM (eV 3)) (gV 6) (cB (aS 4 br (aC (eV 1) (aC (eV 2) (aC (eV 5) (aC (eV 6) (aJ))))))) (eV 6) [6]) [some (.loc S.length),some (.loc l),some (.int turn),some (.loc c),none,none,none] c (dB (S++T) c+1) 0 [] (S++T) =
      .ok (rides.map fun x=>(aF x,.lst ((nxf ls turn rides x).map aF))) (S++T):=fun T=>by
    refine jJ rides _ nd (by omega) (c1 T) fun x hx=>⟨_,rfl,rfl,?_,?_⟩
    · rfl
    · exact zN H (NA.app T) (c1 T) hr (by omega) hx rfl rfl rfl rfl (by simp)
  rw[hd]
  have g2:∀(x:O) (T:Sto),(S++x::T)[S.length]?=some x:=fun x T=>by simp
  have s2:∀(y z:O) (T:Sto),(S++y::T).set S.length z=S++z::T:=fun y z T=>by rw[wF]; rfl
  simp -dsimp [g1,s1,g2,s2,hit,iK]
  refine ix (f:=aF) rides (fun pre _=>InI S p l turn rides (nxf ls turn rides) pre) ?_ ?_ ?_ ?_
  · rintro pre rest env S1 e ⟨b,a,x4,x5,x6,rfl,h,k,_,_⟩
    have:=h.c
    rw[hp] at this
    exact this
  · refine ⟨[],[],none,none,none,by rw[hp],⟨pok,?_,?_,?_,?_,?_⟩,fun i hi=>by rw[List.getElem?_append_left hi],by simp,.nil,.nil,.nil⟩
    · rw[hp]; exact g2 _ _
    · rw[hp]; exact c1 _
    · rw[hp]; simp
    · rw[hp]; simp[rrK]
    · rw[hp]; simp[rrK]
  · rintro pre x rest env S1 e ⟨b,a,x4,x5,x6,rfl,h,k,hz,wb,wa,M⟩
    refine ⟨_,rfl,?_⟩
    have hx:x∈rides:=by rw[←e]; simp
    have hxp:x∉pre:=fun z=>by
      rw[←e,List.nodup_append] at nd
      exact nd.2.2 x z x List.mem_cons_self rfl
    have m1:(S1++[.dct true []])[p.m]?=_:=ah h.m _
    have m0:=h.m
    have hA:MtA (S1++[.dct true []]) p rides (nxf ls turn rides) b a:=⟨h.ok,ah h.m _,ah h.c _,ah h.n _,ah h.b _,ah h.a _⟩
    have ht:Off S1.length p:=by
      subst hp
      constructor<;>simp<;>omega
    have hN:∀x∈rides,∀y∈nxf ls turn rides x,y∈rides:=fun x _ y hy=>(List.mem_filter.mp hy).1
    have gw:=Am hN (by omega) ht 120 (S1++[.dct true []]) x [] b a hA (by simp[dM]) hx .nil nofun wb wa M.m M.g (fun y hy=>absurd (M.k x (by rw[hy]; rfl)) hxp) (by simp; omega)
    simp -dsimp [m0,m1]
    refine dR gw ?_
    rintro v S2 ⟨r,m3,b1,a1,rfl,k1,k2,k3,k4,k5,k6,k7,kf,kt⟩
    simp -dsimp
    have hb4:S.length≤p.b∧S.length≤p.a:=by subst hp; simp
    refine ⟨b1,a1,_,_,_,rfl,k1,fun i hi=>?_,by rw[k3.len]; simp; omega,k6,k7,?_⟩
    · rw[k3.same i (by simp; omega),List.getElem?_append_left (by omega)]
      exact k i hi
    · cases r with
      | false=>
        obtain ⟨eb,ea,kf2⟩:=kf rfl
        subst eb ea
        exact M.no kf2
      | true=>exact M.yes hxp (kt rfl)
  · rintro env S1 ⟨b,a,x4,x5,x6,rfl,h,k,hz,wb,wa,M⟩
    exact ⟨rfl,b,a,h,k,by omega,wb,wa,M⟩
end
end DL
namespace DL
open PySem PySem.Spec PyProof.Rows L2 LamX
/-- what closes from x on -/
def Und (N:aI→List aI) (b:RR) (x:aI):Prop:=∃L R,Cls N b L R∧L x
theorem Und.go {N:aI→List aI} {b:RR} {x y:aI} (h:Und N b x) (hy:y∈N x):∃x',aO b y=some x'∧Und N b x':=by
  obtain ⟨L,R,C,hL⟩:=h
  obtain ⟨x',h1,h2⟩:=C.back y (C.out x hL y hy)
  exact ⟨x',h2,L,R,C,h1⟩
/-- the ends and begins that a cover is made of -/
structure CvP (rides:List aI) (N:aI→List aI) (b a:RR) (E G:List aI):Prop where
  en:E.Nodup
  es:∀e∈E,e∈rides
  gn:G.Nodup
  gs:∀y∈G,y∈rides
  un:∀r∈rides,aO a r=none→r∈E
  cl:∀e∈E,∀y∈N e,y∈G
  bk:∀y∈G,∃x∈E,aO b y=some x
/-- while it is found; cur: the ride that is looked at -/
structure CvI (rides:List aI) (N:aI→List aI) (b a:RR) (cur:aI→Prop) (w E G:List aI):Prop where
  en:E.Nodup
  es:∀e∈E,e∈rides
  gn:G.Nodup
  gs:∀y∈G,y∈rides
  un:∀r∈rides,aO a r=none→r∈E
  cl:∀e∈E,e∈w∨cur e∨∀y∈N e,y∈G
  bk:∀y∈G,∃x∈E,aO b y=some x
  wn:w.Nodup
  ws:∀e∈w,e∈E
  ud:∀e∈E,Und N b e
abbrev cvS (S:Sto) (w E G:List aI):Sto:=S++[.lst (w.map aF),.dct true (dM E),.dct true (dM G)]
structure CvW (S:Sto) (p:MaP) (rides:List aI) (N:aI→List aI) (b a:RR) (k:Nat) (env:En) (S':Sto):Prop where
  ex:∃(w E G:List aI) (x4 x5:Option D),env=[some (.loc p.m),some (.loc S.length),some (.loc (S.length+1)),some (.loc (S.length+2)),x4,x5,none]∧S'=cvS S w E G∧CvI rides N b a (fun _=>False) w E G∧rides.length+w.length≤k+E.length
structure CvL (S:Sto) (p:MaP) (rides:List aI) (N:aI→List aI) (b a:RR) (r:aI) (k:Nat) (pre:List aI) (env:En) (S':Sto):Prop where
  ex:∃(w E G:List aI) (x5:Option D),env=[some (.loc p.m),some (.loc S.length),some (.loc (S.length+1)),some (.loc (S.length+2)),some (aF r),x5,none]∧S'=cvS S w E G∧CvI rides N b a (fun e=>e=r) w E G∧rides.length+w.length≤k+E.length∧(∀y∈pre,y∈G)∧Und N b r
structure CvE (S:Sto) (p:MaP) (rides:List aI) (N:aI→List aI) (b a:RR) (env:En) (S':Sto):Prop where
  ex:∃(E G:List aI) (x4 x5:Option D),env=[some (.loc p.m),some (.loc S.length),some (.loc (S.length+1)),some (.loc (S.length+2)),x4,x5,none]∧S'=cvS S [] E G∧CvP rides N b a E G
theorem pop_cv (S:Sto) (w E G:List aI) (r:aI):bPop (cvS S (w++[r]) E G) (.loc S.length) []=some (aF r,cvS S w E G):=by
  have g1:(cvS S (w++[r]) E G)[S.length]?=some (.lst ((w++[r]).map aF)):=by simp[cvS]
  unfold bPop
  simp only[g1]
  have e:((w++[r]).map aF)[((w++[r]).map aF).length - 1]?=some (aF r):=by simp
  rw[e]
  simp[cvS]
theorem app_cv (S:Sto) (w E G:List aI) (r:aI) (hl:w.length<1000000):bD (cvS S w E G) (.loc S.length) [aF r]=some (.none,cvS S (w++[r]) E G):=by
  have g1:(cvS S w E G)[S.length]?=some (.lst (w.map aF)):=by simp[cvS]
  unfold bD
  simp only[g1]
  rw[if_pos (by simpa using hl)]
  simp[cvS]
def cvT (rides E G:List aI):List T3:=((rides.filter fun r=>!decide (r∈E)).map fun r=>((0:Int),r))++((rides.filter fun r=>decide (r∈G)).map fun r=>((1:Int),r))
theorem cvT_d (rides E G:List aI):(cvT rides E G).map (tD true)=((rides.filter fun r=>!decide (r∈E)).map fun r=>D.tup [.int 0,aF r])++((rides.filter fun r=>decide (r∈G)).map fun r=>D.tup [.int 1,aF r]):=by
  unfold cvT
  rw[List.map_append,List.map_map,List.map_map]
  rfl
theorem uE (S:Sto) (ts:List T3) (hl:ts.length≤1000000):dP S [.lst (ts.map (tD true))]=some (.lst ((ts.mergeSort le3).map (tD true))):=
  k9 ts (tD true) le3 (by simp[di]) (wM true) (fun x y=>by simp[tD]) (fun x=>⟨_,_,rfl⟩) (fun x y=>by rw[pR]; rfl) hl
section
variable {S:Sto} {p:MaP} {rides:List aI} {N:aI→List aI} {b a:RR}
theorem zO (h:MtA S p rides N b a) (hN:∀x∈rides,∀y∈N x,y∈rides) (nd:rides.Nodup) (hl:rides.length≤100000) (wb:Wf rides b) (M:Mxm N rides b a) :
    Res.wp (cr [.loc p.m] S) (fun v S'=>(∃T,S'=S++T)∧∃E G,CvP rides N b a E G∧v=.tpn (((cvT rides E G).mergeSort le3).map (tD true))) NoE:=by
  have m0:=h.m
  have c0:=h.c
  have hit:∀T:Sto,bO (S++T) (.loc p.c)=some (.live p.c):=fun T=>by simp[bO,ah c0 T]
  have hit0:bO S (.loc p.c)=some (.live p.c):=by simp[bO,c0]
  have hA:∀T:Sto,MtA (S++T) p rides N b a:=fun T=>⟨h.ok,ah h.m _,ah h.c _,ah h.n _,ah h.b _,ah h.a _⟩
  unfold cr
  apply aX
  unfold iG
  simp -dsimp [m0,hit0]
  refine eW (f:=aF) rides (fun r=>!(aO a r).isSome) aF (by omega) c0 (fun r hr=>⟨_,rfl,?_,fun _=>?_⟩) ?_
  · apply af
    simp -dsimp [m0,h.inA r]
  · rfl
  obtain ⟨w0,hw0⟩:∃w0,w0=rides.filter fun r=>!(aO a r).isSome:=⟨_,rfl⟩
  rw[←hw0]
  have wn:w0.Nodup:=by rw[hw0]; exact nd.filter _
  have ws:∀r∈w0,r∈rides∧aO a r=none:=fun r hr=>by
    rw[hw0] at hr
    obtain ⟨h1,h2⟩:=List.mem_filter.mp hr
    exact ⟨h1,by simpa using h2⟩
  have wl:w0.length≤rides.length:=dN wn fun r hr=>(ws r hr).1
  have gw:(S++[O.lst (w0.map aF)])[S.length]?=some (.lst (w0.map aF)):=by simp
  have hit1:bO (S++[O.lst (w0.map aF)]) (.loc S.length)=some (.live S.length):=by simp[bO]
  have hd:cz (gV 4) cD (eV 4) (eC (.bool true)) [some (.loc p.m),some (.loc S.length),none,none,none,none,none] S.length (dB (S++[O.lst (w0.map aF)]) S.length+1) 0 [] (S++[O.lst (w0.map aF)])=.ok (dM w0) (S++[O.lst (w0.map aF)]):=
    jJ w0 (fun _=>.bool true) wn (by omega) gw fun x hx=>⟨_,rfl,rfl,rfl,rfl⟩
  simp -dsimp [hit1]
  rw[hd]
  simp -dsimp
  refine sL (sM (N:=CvE S p rides N b a) (fun k=>CvW S p rides N b a k) ?_ lm rides.length _ _ (by unfold lm; omega) ⟨w0,w0,[],none,none,rfl,rfl,⟨wn,fun e he=>(ws e he).1,.nil,nofun,fun r hr hn=>?_,fun e he=>.inl he,nofun,wn,fun _ h=>h,fun e he=>?_⟩,by omega⟩) (fun e S1 hf=>?_) (fun _ _ z=>z)
  · rintro k env S1 ⟨w,E,G,x4,x5,rfl,rfl,I,hk⟩
    have g0:(cvS S w E G)[S.length]?=some (.lst (w.map aF)):=by simp[cvS]
    by_cases hw:w=[]
    · subst hw
      simp -dsimp [g0]
      exact ⟨E,G,x4,x5,rfl,rfl,I.en,I.es,I.gn,I.gs,I.un,fun e he=>(I.cl e he).elim nofun fun h=>h.elim False.elim id,I.bk⟩
    · obtain ⟨w1,r,rfl⟩:∃w1 r,w=w1++[r]:=⟨w.dropLast,w.getLast hw,(List.dropLast_concat_getLast hw).symm⟩
      have hE:=dN I.en I.es
      rw[List.length_append,List.length_singleton] at hk
      have hrE:=I.ws r (by simp)
      have hr:=I.es r hrE
      have e1:=(hA [.lst (w1.map aF),.dct true (dM E),.dct true (dM G)]).nexts hr
      have m1:(cvS S w1 E G)[p.m]?=_:=ah m0 _
      have hdk:dok 60 (.lst ((w1++[r]).map aF))=true:=rideEnc.lst.dok 60 _ (by omega)
      have hpe:peq (.lst ((w1++[r]).map aF)) (.lst [])=false:=by
        have:=rideEnc.lst.peq (w1++[r]) []
        simp only[List.map_nil,List.append_eq_nil_iff,reduceCtorEq,and_false,iff_false,Bool.not_eq_true] at this
        exact this
      have hpop:=pop_cv S w1 E G r
      simp -dsimp [g0,hdk,hpe,bX,hpop,m1,e1,-List.map_append]
      refine dU (f:=aF) (N r) (fun pre _=>CvL S p rides N b a r (k - 1) pre) rfl ⟨w1,E,G,x5,rfl,rfl,⟨I.en,I.es,I.gn,I.gs,I.un,fun e he=>?_,I.bk,(List.nodup_append.mp I.wn).1,fun e he=>I.ws e (List.mem_append_left _ he),I.ud⟩,by omega,nofun,I.ud r hrE⟩ ?_ ?_
      · rcases I.cl e he with h|h|h
        · rcases List.mem_append.mp h with h|h
          · exact .inl h
          · exact .inr (.inl (List.mem_singleton.mp h))
        · exact h.elim
        · exact .inr (.inr h)
      · rintro pre y rest env S1 hp ⟨w,E,G,x5,rfl,rfl,I,hk,hpG,U⟩
        refine ⟨_,rfl,?_⟩
        have hyN:y∈N r:=by rw[←hp]; simp
        have hyr:=hN r hr y hyN
        have hG:=dN I.gn I.gs
        have hE:=dN I.en I.es
        have g3:(cvS S w E G)[S.length+2]?=some (.dct true (dM G)):=by simp[cvS]
        have i1:=uC g3 y
        by_cases hy:y∈G
        · simp -dsimp [i1,hy]
          refine ⟨w,E,G,_,rfl,rfl,I,hk,fun z hz=>?_,U⟩
          rcases List.mem_append.mp hz with hz|hz
          · exact hpG z hz
          · rw[List.mem_singleton.mp hz]; exact hy
        · obtain ⟨x1,hb,U1⟩:=U.go hyN
          have hx1:=wb.look hb
          have p1:bY (cvS S w E G) (.loc (S.length+2)) (aF y) (.bool true)=some (cvS S w E (G++[y])):=by
            rw[vQ g3 (by omega) hy]
            simp[cvS]
          have hB:∀w E G,fIx (cvS S w E G) (.loc p.b) (aF y)=some (aF x1):=fun w E G=>(hA _).ixB hb
          have hM:∀w E G,(cvS S w E G)[p.m]?=_:=fun w E G=>ah m0 _
          have g2:(cvS S w E (G++[y]))[S.length+1]?=some (.dct true (dM E)):=by simp[cvS]
          have i2:=uC g2 x1
          have gn:(G++[y]).Nodup:=by
            rw[List.nodup_append]
            exact ⟨I.gn,by simp,fun u hu v hv e=>hy (by rw[←List.mem_singleton.mp hv,←e]; exact hu)⟩
          have gs:∀z∈G++[y],z∈rides:=fun z hz=>(List.mem_append.mp hz).elim (I.gs z) fun e=>by rw[List.mem_singleton.mp e]; exact hyr
          have hpre:∀z∈pre++[y],z∈G++[y]:=fun z hz=>(List.mem_append.mp hz).elim (fun e=>List.mem_append_left _ (hpG z e)) fun e=>List.mem_append_right _ e
          by_cases hE1:x1∈E
          · simp -dsimp [i1,hy,p1,hM,hB,i2,hE1]
            refine ⟨w,E,G++[y],_,rfl,rfl,⟨I.en,I.es,gn,gs,I.un,fun e he=>?_,fun z hz=>?_,I.wn,I.ws,I.ud⟩,hk,hpre,U⟩
            · rcases I.cl e he with h|h|h
              · exact .inl h
              · exact .inr (.inl h)
              · exact .inr (.inr fun z hz=>List.mem_append_left _ (h z hz))
            · rcases List.mem_append.mp hz with hz|hz
              · exact I.bk z hz
              · rw[List.mem_singleton.mp hz]; exact ⟨x1,hE1,hb⟩
          · have p2:bY (cvS S w E (G++[y])) (.loc (S.length+1)) (aF x1) (.bool true)=some (cvS S w (E++[x1]) (G++[y])):=by
              rw[vQ g2 (by omega) hE1]
              simp[cvS]
            have hwl:w.length<1000000:=by have:=dN I.wn I.ws; omega
            have p3:=app_cv S w (E++[x1]) (G++[y]) x1 hwl
            have g0:(cvS S w (E++[x1]) (G++[y]))[S.length]?=some (.lst (w.map aF)):=by simp[cvS]
            simp -dsimp [i1,hy,p1,hM,hB,i2,hE1,p2,bX,g0,p3]
            refine ⟨w++[x1],E++[x1],G++[y],_,rfl,rfl,⟨?_,fun e he=>?_,gn,gs,fun z hz hn=>List.mem_append_left _ (I.un z hz hn),fun e he=>?_,fun z hz=>?_,?_,fun e he=>?_,fun e he=>?_⟩,by simp; omega,hpre,U⟩
            · rw[List.nodup_append]
              exact ⟨I.en,by simp,fun u hu v hv e=>hE1 (by rw[←List.mem_singleton.mp hv,←e]; exact hu)⟩
            · rcases List.mem_append.mp he with he|he
              · exact I.es e he
              · rw[List.mem_singleton.mp he]; exact hx1
            · rcases List.mem_append.mp he with he|he
              · rcases I.cl e he with h|h|h
                · exact .inl (List.mem_append_left _ h)
                · exact .inr (.inl h)
                · exact .inr (.inr fun z hz=>List.mem_append_left _ (h z hz))
              · exact .inl (List.mem_append_right _ he)
            · rcases List.mem_append.mp hz with hz|hz
              · obtain ⟨x',h1,h2⟩:=I.bk z hz
                exact ⟨x',List.mem_append_left _ h1,h2⟩
              · rw[List.mem_singleton.mp hz]; exact ⟨x1,by simp,hb⟩
            · rw[List.nodup_append]
              exact ⟨I.wn,by simp,fun u hu v hv e=>hE1 (by rw[←List.mem_singleton.mp hv,←e]; exact I.ws u hu)⟩
            · rcases List.mem_append.mp he with he|he
              · exact List.mem_append_left _ (I.ws e he)
              · exact List.mem_append_right _ he
            · rcases List.mem_append.mp he with he|he
              · exact I.ud e he
              · rw[List.mem_singleton.mp he]; exact U1
      · rintro env S1 ⟨w,E',G',x5,rfl,rfl,I',hk',hpG,U⟩
        refine ⟨k - 1,by omega,w,E',G',_,_,rfl,rfl,⟨I'.en,I'.es,I'.gn,I'.gs,I'.un,fun e he=>?_,I'.bk,I'.wn,I'.ws,I'.ud⟩,hk'⟩
        rcases I'.cl e he with h|h|h
        · exact .inl h
        · rw[h]; exact .inr (.inr hpG)
        · exact .inr (.inr h)
  · rw[hw0]
    exact List.mem_filter.mpr ⟨hr,by rw[hn]; rfl⟩
  · exact M.c e (ws e he).1 (ws e he).2
  · obtain ⟨E,G,x4,x5,rfl,rfl,P⟩:=hf
    have cE:∀T:Sto,bO (cvS S [] E G++T) (.loc p.c)=some (.live p.c):=fun T=>by
      have:=hit ([.lst [],.dct true (dM E),.dct true (dM G)]++T)
      simpa [cvS] using this
    have m1:(cvS S [] E G)[p.m]?=_:=ah m0 _
    have c1:(cvS S [] E G)[p.c]?=some (.lst (rides.map aF)):=ah c0 _
    have i0:bO (cvS S [] E G) (.loc p.c)=some (.live p.c):=hit _
    have g2:(cvS S [] E G)[S.length+1]?=some (.dct true (dM E)):=by simp[cvS]
    have g3:(cvS S [] E G)[S.length+2]?=some (.dct true (dM G)):=by simp[cvS]
    simp -dsimp [m1,i0]
    refine eW (f:=aF) rides (fun r=>!decide (r∈E)) (fun r=>.tup [.int 0,aF r]) (by omega) c1 (fun r hr=>⟨_,rfl,?_,fun _=>?_⟩) ?_
    · have:=uC g2 r
      apply af
      simp -dsimp [this]
    · apply af
      simp -dsimp
    simp -dsimp [m1,i0]
    refine eW (f:=aF) rides (fun r=>decide (r∈G)) (fun r=>.tup [.int 1,aF r]) (by omega) c1 (fun r hr=>⟨_,rfl,?_,fun _=>?_⟩) ?_
    · have:=uC g3 r
      apply af
      simp -dsimp [this]
    · apply af
      simp -dsimp
    have f1:=List.length_filter_le (fun r=>!decide (r∈E)) rides
    have f2:=List.length_filter_le (fun r=>decide (r∈G)) rides
    have hs:=uE (cvS S [] E G) (cvT rides E G) (by unfold cvT; simp; omega)
    rw[cvT_d] at hs
    have hle:(rides.filter fun r=>!decide (r∈E)).length+(rides.filter fun r=>decide (r∈G)).length≤1000000:=by omega
    have hlc:(cvT rides E G).length≤1000000:=by unfold cvT; simp; omega
    simp -dsimp [hle,hs,hlc]
    exact ⟨E,G,P,rfl⟩
end
end DL
namespace DL
open PySem PySem.Spec PyProof.Rows L2 LamX
/-- the rides of a plane from r on -/
def chF (a:RR):Nat→aI→List aI
  | 0,r=>[r]
  | n+1,r=>match aO a r with
    | none=>[r]
    | some y=>r::chF a n y
theorem kT (a:RR):∀(n:Nat) (r:aI),(chF a n r).length≤n+1
  | 0,r=>by simp[chF]
  | n+1,r=>by
    unfold chF
    split
    · simp
    · rename_i y _
      have:=kT a n y
      simp
      omega
theorem uF {a:RR} {r:aI} (h:aO a r=none) (n:Nat):chF a n r=[r]:=by
  cases n with
  | zero=>rfl
  | succ n=>unfold chF; rw[h]
theorem uG {a:RR} {r y:aI} (h:aO a r=some y) (n:Nat):chF a (n+1) r=r::chF a n y:=by
  rw[chF,h]
/-- a plane's rides,as they are found; n: how many there may be -/
structure ChI (a:RR) (f:aI→Int) (rides:List aI) (r:aI) (pre:List aI) (z:aI):Prop where
  eq:pre.length≤rides.length∧chF a rides.length r=pre++chF a (rides.length - pre.length) z
  up:∀q∈pre,f q<f z
  pw:pre.Pairwise fun q r=>f q<f r
  sub:∀q∈pre,q∈rides
  z:z∈rides
theorem ChI.len {a:RR} {f:aI→Int} {rides:List aI} {r z:aI} {pre:List aI} (h:ChI a f rides r pre z):pre.length+1≤rides.length:=by
  have nd:(pre++[z]).Nodup:=by
    rw[List.nodup_append]
    refine ⟨h.pw.imp fun {x y} hxy e=>by rw[e] at hxy; omega,by simp,fun u hu v hv e=>?_⟩
    have h1:=h.up u hu
    rw[e,List.mem_singleton.mp hv] at h1
    omega
  have:=dN nd (m:=rides) fun q hq=>(List.mem_append.mp hq).elim (h.sub q) fun e=>by rw[List.mem_singleton.mp e]; exact h.z
  simpa using this
theorem ChI.go {a:RR} {f:aI→Int} {rides:List aI} {r z y:aI} {pre:List aI} (h:ChI a f rides r pre z) (e:aO a z=some y) (hf:f z<f y) (hy:y∈rides):ChI a f rides r (pre++[z]) y:=by
  have hl:=h.len
  refine ⟨⟨by simpa using hl,?_⟩,fun q hq=>?_,?_,fun q hq=>?_,hy⟩
  · rw[h.eq.2,show rides.length - pre.length=rides.length - (pre.length+1)+1 by omega,uG e]
    simp
  · rcases List.mem_append.mp hq with hq|hq
    · have:=h.up q hq; omega
    · rw[List.mem_singleton.mp hq]; exact hf
  · rw[List.pairwise_append]
    exact ⟨h.pw,by simp,fun u hu v hv=>by rw[List.mem_singleton.mp hv]; exact h.up u hu⟩
  · rcases List.mem_append.mp hq with hq|hq
    · exact h.sub q hq
    · rw[List.mem_singleton.mp hq]; exact h.z
theorem ChI.done {a:RR} {f:aI→Int} {rides:List aI} {r z:aI} {pre:List aI} (h:ChI a f rides r pre z) (e:aO a z=none):chF a rides.length r=pre++[z]:=by
  rw[h.eq.2,uF e]
def chD (a:RR) (n:Nat) (r:aI):D:=.tpn ((chF a n r).map aF)
structure CaI (S:Sto) (p:MaP) (rides:List aI) (b a:RR) (pre:List aI) (env:En) (S':Sto):Prop where
  ex:∃(T:Sto) (x2 x3:Option D),env=[some (.loc p.m),some (.loc S.length),x2,x3]∧S'=S++(.lst ((pre.filter fun r=>(aO b r).isNone).map (chD a rides.length))::T)
structure CaW (S0:Sto) (p:MaP) (rides:List aI) (a:RR) (f:aI→Int) (r:aI) (n:Nat) (l:Nat) (k:Nat) (env:En) (S':Sto):Prop where
  ex:∃(pre:List aI) (z:aI),env=[some (.loc p.m),some (.loc l),some (aF r),some (.loc n)]∧S'=S0++[.lst ((pre++[z]).map aF)]∧ChI a f rides r pre z∧rides.length≤k+pre.length
structure CaE (S0:Sto) (p:MaP) (rides:List aI) (a:RR) (r:aI) (n l:Nat) (env:En) (S':Sto):Prop where
  ex:env=[some (.loc p.m),some (.loc l),some (aF r),some (.loc n)]∧S'=S0++[.lst ((chF a rides.length r).map aF)]
section
variable {S:Sto} {p:MaP} {rides:List aI} {N:aI→List aI} {b a:RR}
theorem xO (f:aI→Int) (h:MtA S p rides N b a) (hl:rides.length≤100000) (hf:∀x y,aO a x=some y→f x<f y∧y∈rides) :
    Res.wp (cV [.loc p.m] S) (fun v S'=>v=.loc S.length∧∃T,S'=S++(.lst ((rides.filter fun r=>(aO b r).isNone).map (chD a rides.length))::T)) NoE:=by
  have m0:=h.m
  have c0:=h.c
  have hA:∀T:Sto,MtA (S++T) p rides N b a:=fun T=>⟨h.ok,ah h.m _,ah h.c _,ah h.n _,ah h.b _,ah h.a _⟩
  have mT:∀T:Sto,(S++T)[p.m]?=_:=fun T=>ah m0 T
  have hit:∀T:Sto,bO (S++T) (.loc p.c)=some (.live p.c):=fun T=>by simp[bO,ah c0 T]
  unfold cV
  apply aX
  unfold gh
  simp -dsimp [mT,hit]
  refine ix (f:=aF) rides (fun pre _=>CaI S p rides b a pre) ?_ ?_ ?_ ?_
  · rintro pre rest env S1 e ⟨T,x2,x3,rfl,rfl⟩
    exact ah c0 _
  · exact ⟨[],none,none,rfl,rfl⟩
  · rintro pre r rest env S1 e ⟨T,x2,x3,rfl,rfl⟩
    refine ⟨_,rfl,?_⟩
    have hr:r∈rides:=by rw[←e]; simp
    have hpl:pre.length<rides.length:=by rw[←e]; simp
    have ib:=fun T=>(hA T).inB r
    cases hb:aO b r with
    | some x=>
      rw[hb] at ib
      simp -dsimp [mT,ib]
      exact ⟨T,_,_,rfl,by simp[hb]⟩
    | none=>
      rw[hb] at ib
      simp -dsimp [mT,ib]
      obtain ⟨S0,hS0⟩:∃S0,S0=S++(.lst ((pre.filter fun r=>(aO b r).isNone).map (chD a rides.length))::T):=⟨_,rfl⟩
      have e0:(S++(.lst ((pre.filter fun r=>(aO b r).isNone).map (chD a rides.length))::(T++[.lst [aF r]])))=S0++[.lst [aF r]]:=by rw[hS0]; simp
      have en:S.length+(T.length+1)=S0.length:=by rw[hS0]; simp
      rw[e0,en]
      have hA0:∀X:Sto,MtA (S0++X) p rides N b a:=fun X=>by rw[hS0,List.append_assoc]; exact hA _
      have m1:∀X:Sto,(S0++X)[p.m]?=_:=fun X=>(hA0 X).m
      refine sL (sM (N:=CaE S0 p rides a r S0.length S.length) (fun k=>CaW S0 p rides a f r S0.length S.length k) ?_ lm rides.length _ _ (by unfold lm; omega) ⟨[],r,rfl,rfl,⟨⟨by simp,by simp⟩,nofun,.nil,nofun,hr⟩,by simp⟩) (fun e1 S1 hf=>?_) (fun _ _ z=>z)
      · rintro k env S1 ⟨pr,z,rfl,rfl,I,hk⟩
        have hI:=I.len
        have q0:(S0++[O.lst ((pr++[z]).map aF)])[S0.length]?=some (.lst ((pr++[z]).map aF)):=by simp
        have q:fIx (S0++[O.lst ((pr++[z]).map aF)]) (.loc S0.length) (.int (-1))=some (aF z):=by
          rw[AS q0]
          simp[atI,ixN]
          rw[if_pos (by omega)]
          show (List.map aF pr++[aF z])[(-1+((pr.length:Int)+1)).toNat]?=_
          rw[show (-1+((pr.length:Int)+1)).toNat=(List.map aF pr).length by simp; omega]
          simp
        have i1:=(hA0 [O.lst ((pr++[z]).map aF)]).inA z
        cases ha:aO a z with
        | none=>
          rw[ha] at i1
          simp -dsimp [q,m1,i1,-List.map_append]
          exact ⟨rfl,by rw[I.done ha]⟩
        | some y=>
          rw[ha] at i1
          obtain ⟨hlt,hy⟩:=hf z y ha
          have i2:=(hA0 [O.lst ((pr++[z]).map aF)]).ixA ha
          have ap:bD (S0++[O.lst ((pr++[z]).map aF)]) (.loc S0.length) [aF y]=some (.none,S0++[O.lst ((pr++[z]++[y]).map aF)]):=by
            unfold bD
            simp only[q0]
            rw[if_pos (by simp; omega)]
            simp
          simp -dsimp [q,m1,i1,i2,bX,q0,ap,-List.map_append]
          exact ⟨k - 1,by omega,pr++[z],y,rfl,by simp,I.go ha hlt hy,by simp; omega⟩
      · obtain ⟨rfl,rfl⟩:=hf
        obtain ⟨F,hF⟩:∃F,F=(pre.filter fun r=>(aO b r).isNone).map (chD a rides.length):=⟨_,rfl⟩
        rw[←hF] at hS0
        have q1:(S0++[O.lst ((chF a rides.length r).map aF)])[S.length]?=some (.lst F):=by rw[hS0]; simp
        have q2:(S0++[O.lst ((chF a rides.length r).map aF)])[S0.length]?=some (.lst ((chF a rides.length r).map aF)):=by simp
        have fl:F.length<1000000:=by
          rw[hF,List.length_map]
          have:=List.length_filter_le (fun r=>(aO b r).isNone) pre
          omega
        have ap:bD (S0++[O.lst ((chF a rides.length r).map aF)]) (.loc S.length) [chD a rides.length r]=some (.none,S++(.lst (F++[chD a rides.length r])::(T++[O.lst ((chF a rides.length r).map aF)]))):=by
          unfold bD
          simp only[q1]
          rw[if_pos fl,hS0]
          simp
        unfold chD at ap
        have cl:(chF a rides.length r).length≤1000000:=by
          have:=kT a rides.length r
          omega
        have ft:jo (S0++[O.lst ((chF a rides.length r).map aF)]) [.loc S0.length]=some (.tpn ((chF a rides.length r).map aF)):=by
          simp[jo,q2]
        simp -dsimp [bX,q1,ft,ap,cl]
        exact ⟨T++[O.lst ((chF a rides.length r).map aF)],_,_,rfl,by rw[hF]; simp[hb,chD]⟩
  · rintro env S1 ⟨T,x2,x3,rfl,rfl⟩
    simp -dsimp
end
end DL
namespace DL
open PySem PySem.Spec PyProof.Rows L2 LamX
theorem oL {ls:List Leg} (nd:(ls.map (·.num)).Nodup) (first:Int) (n:Nat):(bR ls first n).Nodup:=by
  have key:∀n,((am ls first n).map fun t=>(t.2.2,t.2.1)).Nodup:=by
    intro n
    induction n with
    | zero=>simp[am]
    | succ n ih=>
      rw[oJ,List.map_append,List.nodup_append]
      refine ⟨ih,?_,fun u hu v hv e=>?_⟩
      · rw[List.map_map]
        have:((ls.filter fun l=>decide ((first+n) % 7∈l.days)).map (·.num)).Nodup:=nd.sublist (List.filter_sublist.map _)
        rw[List.Nodup,List.pairwise_map] at this
        exact List.pairwise_map.mpr (this.imp fun {x y} h e=>h (congrArg Prod.snd e))
      · obtain ⟨t,ht,rfl⟩:=List.mem_map.mp hu
        obtain ⟨i,hi,l,hl,hd,rfl⟩:=mem_raw.mp ht
        rw[List.mem_map] at hv
        obtain ⟨t2,ht2,e2⟩:=hv
        obtain ⟨l2,hl2,rfl⟩:=List.mem_map.mp ht2
        rw[←e2] at e
        have:=congrArg Prod.fst e
        simp at this
        omega
  have pm:(bR ls first n).Perm ((am ls first n).map fun t=>(t.2.2,t.2.1)):=(List.mergeSort_perm _ _).map _
  exact pm.nodup_iff.mpr (key n)
theorem zP {S S':Sto} (h:∀i,i<S.length→S'[i]?=S[i]?) (hl:S.length≤S'.length):∃T,S'=S++T:=by
  refine ⟨S'.drop S.length,?_⟩
  have e:S'.take S.length=S:=List.ext_getElem? fun i=>by
    rw[List.getElem?_take]
    split
    · rename_i hi
      exact h i hi
    · rename_i hi
      rw[List.getElem?_eq_none (by omega)]
  conv=>lhs; rw[←List.take_append_drop S.length S',e]
/-- what fewest tells and leaves -/
structure FwR (S:Sto) (rides:List aI) (N:aI→List aI) (v:D) (S':Sto):Prop where
  ex:∃(T:Sto) (c:Nat) (b a:RR) (E G L:List aI),S'=S++T∧v=.tup [.int (L.length:Nat),.loc c,.tpn (((cvT rides E G).mergeSort le3).map (tD true))]∧S.length≤c∧S'[c]?=some (.lst (L.map (chD a rides.length)))∧
    L=rides.filter (fun r=>(aO b r).isNone)∧Mxm N rides b a∧Wf rides b∧Wf rides a∧CvP rides N b a E G
section
variable {S:Sto} {ps:List (Str × Int)} {ls:List Leg} {turn first last:Int}
theorem kU (h0:0≤first) (h1:first≤last) (h2:last≤60):cH [.int first,.int last] S=.ok .none S:=by
  apply af
  unfold cH
  apply aX
  unfold iZ
  have h3:first≤60:=by omega
  simp -dsimp [h0,h1,h2,h3]
theorem fT (h:10≤turn∧turn≤300):cI [.int turn] S=.ok .none S:=by
  apply af
  unfold cI
  apply aX
  unfold ia
  simp -dsimp [h]
theorem cf_lt (H:NetOk ps ls) (h:10≤turn) {x y:aI} (hx:HasLeg ls x.2) (e:cf ls turn x y=true):bB ls x<bB ls y:=by
  unfold cf at e
  rw[Bool.and_eq_true,decide_eq_true_eq,decide_eq_true_eq] at e
  have:=(H.legs _ (i4 hx)).long
  have h2:=e.2
  unfold kL wO at h2
  omega
theorem xP (H:NetOk ps ls) (ht:10≤turn∧turn≤300) (h0:0≤first) (h1:first≤last) (h2:last≤60) (hlen:(bR ls first (last+1 - first).toNat).length≤119) :
    Res.wp (bw [cc ps ls,.int turn,.int first,.int last] S) (FwR S (bR ls first (last+1 - first).toNat) (nxf ls turn (bR ls first (last+1 - first).toNat))) NoE:=by
  obtain ⟨rides,hrd⟩:∃rides,rides=bR ls first (last+1 - first).toNat:=⟨_,rfl⟩
  obtain ⟨S1,hS1⟩:∃S1,S1=S++tz S.length ps ls:=⟨_,rfl⟩
  have NA:NetAt S1 S.length ps ls:=by rw[hS1]; exact pj
  have e:=kQ (S:=S1) NA H.nd H.len (fun l hl=>by have ok:=H.legs l hl; have:=kO ok.dlt ok.dbd; omega) h0 h1 h2
  have hnd:rides.Nodup:=by rw[hrd]; exact oL H.nd first _
  have hleg:∀r∈rides,HasLeg ls r.2:=fun r hr=>by
    rw[hrd] at hr
    exact ((ik H.nd).mp hr).2.2.1
  rw[←hrd] at e hlen ⊢
  obtain ⟨S2,hS2⟩:∃S2,S2=S1++[O.lst (rides.map aF)]:=⟨_,rfl⟩
  rw[←hS2] at e
  have NA2:NetAt S2 S.length ps ls:=by rw[hS2]; exact NA.app _
  have hc:S2[S1.length]?=some (.lst (rides.map aF)):=by rw[hS2]; simp
  obtain ⟨c0,g0,q1,q2,q3⟩:=NA.ex
  have mi:=qu (turn:=turn) H NA2 hc hleg hnd hlen
  unfold bw
  apply aX
  unfold kE
  simp -dsimp [i5 H,←hS1,fT ht,kU h0 h1 h2,q1,e]
  refine dR mi ?_
  rintro v S3 ⟨rfl,b,a,A,k,kl,wb,wa,M⟩
  simp -dsimp
  have m0:=A.m
  have m0:S3[S2.length]?=_:=A.m
  have hf:∀x y,aO a x=some y→bB ls x<bB ls y∧y∈rides:=fun x y e=>by
    have hx:x∈rides:=M.k x (by rw[e]; rfl)
    obtain ⟨h4,h5⟩:=List.mem_filter.mp (M.g y x ((M.m y x).mpr e))
    exact ⟨cf_lt H ht.1 (hleg x hx) h5,h4⟩
  have cw:=xO (b:=b) (bB ls) A (by omega) hf
  simp -dsimp [m0]
  refine dR cw ?_
  rintro v S4 ⟨rfl,T4,rfl⟩
  obtain ⟨L,hL⟩:∃L,L=rides.filter fun r=>(aO b r).isNone:=⟨_,rfl⟩
  rw[←hL]
  have m1:(S3++(O.lst (L.map (chD a rides.length))::T4))[S2.length]?=_:=ah m0 _
  have g1:(S3++(O.lst (L.map (chD a rides.length))::T4))[S3.length]?=some (.lst (L.map (chD a rides.length))):=by simp
  have fl:=jw g1
  rw[List.length_map] at fl
  have A4:MtA (S3++(O.lst (L.map (chD a rides.length))::T4)) ⟨S2.length,S1.length,S2.length+1,S2.length+2,S2.length+3⟩ rides (nxf ls turn rides) b a:=⟨A.ok,ah A.m _,ah A.c _,ah A.n _,ah A.b _,ah A.a _⟩
  have hN:∀x∈rides,∀y∈nxf ls turn rides x,y∈rides:=fun x _ y hy=>(List.mem_filter.mp hy).1
  have vw:=zO A4 hN hnd (by omega) wb M
  simp -dsimp [m1,fl]
  refine dR vw ?_
  rintro v S5 ⟨⟨T5,rfl⟩,E,G,P,rfl⟩
  simp -dsimp
  obtain ⟨T3,rfl⟩:=zP k kl
  have hSl:S.length≤(S2++T3).length:=by rw[hS2,hS1]; simp
  refine ⟨_,(S2++T3).length,b,a,E,G,L,by rw[hS2,hS1]; simp only[List.append_assoc]; rfl,rfl,hSl,by simp,hL,M,wb,wa,P⟩
end
end DL
namespace DL
open PySem PySem.Spec PyProof.Rows L2 LamX
/-- things that are no ends -/
def oddE:List D:=[.tup [.bool true,.tup [.int 0,.int 100]],.tup [.int 0,.lst [.int 0,.int 100]],.tup [.int 0,.tup [.bool true,.int 100]],.tup [.int 1,.tup [.bool false,.int 100]],.tup [.int 0,.tup [.bool true,.int 13]],.none,.tup [.int 0],.str "x"]
/-- what a cover may hold -/
def CovE (d:D):Prop:=(∃t:T3,d=tD true t)∨d∈oddE
/-- whether it is an end -/
def isE (rides:List aI) (d:D):Bool:=match sV true d with
  | some t=>decide ((t.1=0∨t.1=1)∧t.2∈rides)
  | none=>false
theorem qv (t:T3):sV true (tD true t)=some t:=rfl
theorem zQ {d:D} (h:d∈oddE):sV true d=none:=by
  unfold oddE at h
  simp only[List.mem_cons,List.not_mem_nil,or_false] at h
  rcases h with rfl|rfl|rfl|rfl|rfl|rfl|rfl|rfl<;>rfl
def numB:D→Bool
  | .int n=>dC (.int n) 0 n
  | _=>false
section
variable {S:Sto} {rides:List aI} {d v:D}
theorem uH (h:LV S v (rides.map aF)) (r:aI):dIn S (aF r) v=some (decide (r∈rides)):=by
  unfold dIn
  rw[h.view]
  have h1:dok 60 (.lst (rides.map aF))=true:=rideEnc.lst.dok 60 _ (by omega)
  have h2:dok 60 (aF r)=true:=rideEnc.dok 60 _ (by omega)
  simp only[h1,h2,Bool.and_self,if_true,List.any_map]
  congr 1
  rw[Bool.eq_iff_iff,List.any_eq_true,decide_eq_true_eq]
  constructor
  · rintro ⟨q,hq,e⟩
    have:=(rideEnc.peq q r).mp e
    exact this▸hq
  · intro hr
    exact ⟨r,hr,(rideEnc.peq r r).mpr rfl⟩
theorem An (h:LV S v (rides.map aF)) (hd:dok 60 d=true):∃b,dIn S d v=some b:=by
  unfold dIn
  rw[h.view]
  have h1:dok 60 (.lst (rides.map aF))=true:=rideEnc.lst.dok 60 _ (by omega)
  simp only[h1,hd,Bool.and_self,if_true]
  exact ⟨_,rfl⟩
theorem xQ (h:LV S v (rides.map aF)) (hp:∀r∈rides,0≤r.1∧0≤r.2) (hd:CovE d):ie [d,v] S=.ok (.bool (isE rides d)) S:=by
  apply af
  unfold ie
  rcases hd with ⟨⟨e,x,n⟩,rfl⟩|hd
  · apply aX
    unfold dj
    have hi:=uH h (x,n)
    have hn:aP [.int e,.int 0,.int 1] S=_:=gE (t:="int") 0 1 rfl
    have hx:aP [.int x,.int 0,.int x] S=_:=gE (t:="int") 0 x rfl
    have hnn:aP [.int n,.int 0,.int n] S=_:=gE (t:="int") 0 n rfl
    unfold aF at hi
    have heq:isE rides (tD true (e,x,n))=decide ((e=0∨e=1)∧(x,n)∈rides):=rfl
    rw[heq]
    simp -dsimp [tD,hn,dC,cG]
    by_cases he:e<0∨1<e
    · have:¬((e=0∨e=1)∧(x,n)∈rides):=fun h=>by omega
      simp -dsimp [he,this]
    · have he2:e=0∨e=1:=by omega
      have e1:¬e<0:=by omega
      have e2:¬1<e:=by omega
      by_cases hr:(x,n)∈rides
      · have hpr:=hp _ hr
        simp -dsimp [e1,e2,tD,hi,hr,he2]
        refine av (f:=D.int) [x,n] (fun _=>true) (fun i=>.bool (dC (.int i) 0 i)) rfl (by simp) (fun i hi=>⟨_,rfl,rfl,fun _=>?_⟩) ?_
        · have hx:aP [.int i,.int 0,.int i] S=_:=gE (t:="int") 0 i rfl
          apply af
          simp -dsimp [hx]
        · have a1:dC (.int x) 0 x=true:=by simp[dC,hpr.1]
          have a2:dC (.int n) 0 n=true:=by simp[dC,hpr.2]
          have fa:=jW S [true,true]
          simp -dsimp [a1,a2,kh,gO]
          exact ⟨he2,hr⟩
      · simp -dsimp [e1,e2,tD,hi,hr]
  · have hne:isE rides d=false:=by unfold isE; rw[zQ hd]
    rw[hne]
    have q1:aP [.bool true,.int 0,.int 1] S=_:=gE (t:="bool") 0 1 rfl
    have q2:aP [.int 0,.int 0,.int 1] S=_:=gE (t:="int") 0 1 rfl
    have q3:aP [.int 1,.int 0,.int 1] S=_:=gE (t:="int") 0 1 rfl
    have bad:∀(b:Bool) (n:Int) (e:Int),(e=0∨e=1)→dok 60 (.tup [.bool b,.int n])=true→Res.wp (bG 1 dj [.tup [.int e,.tup [.bool b,.int n]],v] S) (fun a S'=>a=.bool false∧S'=S) NoE:=by
      intro b n e he hdk
      obtain ⟨c,hc⟩:=An h hdk
      have q4:aP [.int e,.int 0,.int 1] S=_:=gE (t:="int") 0 1 rfl
      apply aX
      unfold dj
      have e1:¬e<0:=by omega
      have e2:¬1<e:=by omega
      simp -dsimp [q4,dC,cG,e1,e2,hc]
      cases c with
      | false=>simp -dsimp
      | true=>
        simp -dsimp
        refine av (f:=id) [D.bool b,D.int n] (fun _=>true) (fun d=>.bool (numB d)) rfl (by simp) (fun d hd=>⟨_,rfl,rfl,fun _=>?_⟩) ?_
        · simp only[List.mem_cons,List.not_mem_nil,or_false] at hd
          rcases hd with rfl|rfl
          · have hx:aP [.bool b,.int 0,.bool b] S=.ok (.bool false) S:=by simp[aP,e9,cG]
            apply af
            simp -dsimp [hx,numB]
          · have hx:aP [.int n,.int 0,.int n] S=_:=gE (t:="int") 0 n rfl
            apply af
            simp -dsimp [hx,numB]
        · simp -dsimp [kh,gO,numB]
    unfold oddE at hd
    simp only[List.mem_cons,List.not_mem_nil,or_false] at hd
    rcases hd with rfl|rfl|rfl|rfl|rfl|rfl|rfl|rfl
    · apply aX
      unfold dj
      simp -dsimp [q1,dC,cG]
    · apply aX
      unfold dj
      simp -dsimp [q2,dC,cG]
    · exact bad true 100 0 (.inl rfl) (by decide +kernel)
    · exact bad false 100 1 (.inr rfl) (by decide +kernel)
    · exact bad true 13 0 (.inl rfl) (by decide +kernel)
    · apply aX
      unfold dj
      simp -dsimp [cG]
    · apply aX
      unfold dj
      simp -dsimp [cG]
    · apply aX
      unfold dj
      simp -dsimp [cG]
end
end DL
namespace DL
open PySem PySem.Spec PyProof.Rows L2 LamX
section
variable {S:Sto} {ps:List (Str × Int)} {ls:List Leg} {turn:Int} {x y:aI}
theorem dq (H:NetOk ps ls) (hx:HasLeg ls x.2) (hy:HasLeg ls y.2):bE [cc ps ls,.int turn,aF x,aF y] S=.ok (.bool (cf ls turn x y)) S:=by
  have l1:=oH (ps:=ps) (S:=S) H.nd (by have:=H.len; omega) hx
  have l2:=oH (ps:=ps) (S:=S) H.nd (by have:=H.len; omega) hy
  have l3:=hY (ps:=ps) (S:=S) H.nd (by have:=H.len; omega) hx
  have l4:=hY (ps:=ps) (S:=S) H.nd (by have:=H.len; omega) hy
  have o1:=(kR H hx).2
  have o2:=(kR H hy).1
  apply af
  unfold bE
  apply aX
  unfold gq
  simp -dsimp [l1,l2,l3,l4]
  simp -dsimp [Leg.d,l3,l4]
  unfold oE at o1
  unfold ja at o2
  simp -dsimp [o1,o2]
  have hcf:cf ls turn x y=(decide ((b7 ls x.2).goal=(b7 ls y.2).start)&&decide (bB ls x+(b7 ls x.2).long+turn≤bB ls y)):=rfl
  rw[hcf]
  by_cases h:(b7 ls x.2).goal=(b7 ls y.2).start
  · simp -dsimp [h,l4]
  · simp -dsimp [h]
end
/-- all two of them -/
def coup (rides:List aI):List (aI × aI):=rides.flatMap fun x=>rides.map fun y=>(x,y)
end DL
namespace DL
open PySem PySem.Spec PyProof.Rows L2 LamX
def TV (v:D) (cs:List D):Prop:=v=.tup cs∨v=.tpn cs
theorem TV.view {S:Sto} {v:D} {cs:List D} (h:TV v cs):view S v=.tup cs:=by rcases h with rfl|rfl<;>rfl
theorem TV.len {S:Sto} {v:D} {cs:List D} (h:TV v cs):cx S [v]=some (.int (cs.length:Nat)):=by rcases h with rfl|rfl<;>rfl
theorem TV.iter {S:Sto} {v:D} {cs:List D} (h:TV v cs):bO S v=some (.items cs):=by rcases h with rfl|rfl<;>rfl
theorem TV.isi {S:Sto} {v:D} {cs:List D} (h:TV v cs):cG S [v,.ty "tuple"]=some (.bool true):=by rcases h with rfl|rfl<;>simp[cG]
theorem TV.seq {S:Sto} {v:D} {cs:List D} (h:TV v cs):jD S v=some cs:=by unfold jD; rw[h.view]
theorem vR {d:D} {t:T3} (h:sV true d=some t):d=tD true t:=(pQ h).1
theorem tEnc:Enc 2 (tD true):=Enc.pair Enc.int rideEnc
/-- what a cover holds,as numbers -/
def tsC (cs:List D):List T3:=cs.filterMap (sV true)
theorem wV:∀ts:List T3,tsC (ts.map (tD true))=ts
  | []=>rfl
  | t::ts=>by
    unfold tsC
    rw[List.map_cons,List.filterMap_cons_some (qv t)]
    exact congrArg (t::·) (wV ts)
theorem lI:∀ts:List T3,iF true (ts.map (tD true))=some ts
  | []=>rfl
  | t::ts=>by
    rw[List.map_cons]
    unfold iF
    rw[lI ts,qv t]
theorem uI {rides:List aI}:∀ {cs:List D},cs.all (isE rides)=true→cs=(tsC cs).map (tD true)∧∀t∈tsC cs,(t.1=0∨t.1=1)∧t.2∈rides
  | [],_=>⟨rfl,nofun⟩
  | d::cs,h=>by
    rw[List.all_cons,Bool.and_eq_true] at h
    obtain ⟨h1,h2⟩:=h
    obtain ⟨e1,e2⟩:=uI h2
    unfold isE at h1
    split at h1
    · rename_i t ht
      have e0:=vR ht
      have e3:tsC (d::cs)=t::tsC cs:=by unfold tsC; rw[List.filterMap_cons_some ht]
      rw[e3]
      refine ⟨by rw[List.map_cons,←e1,e0],fun u hu=>?_⟩
      rcases List.mem_cons.mp hu with rfl|hu
      · exact of_decide_eq_true h1
      · exact e2 u hu
    · cases h1
def covB (ls:List Leg) (turn:Int) (rides:List aI) (ts:List T3):Bool:=(coup rides).all fun q=>!cf ls turn q.1 q.2||(decide (((0:Int),q.1)∈ts)||decide (((1:Int),q.2)∈ts))
/-- what is to be told of a cover -/
def shD (ls:List Leg) (turn:Int) (rides:List aI) (cs:List D):D:=
  if cs.all (isE rides)=true∧(bT (tsC cs)).length=cs.length∧covB ls turn rides (tsC cs)=true then .int ((rides.length:Int) - (cs.length:Int)) else .none
theorem fAll_p {α:Type} (S:Sto) (p:α→Bool) (xs:List α):kh S [.lst (xs.map fun y=>.bool (p y))]=some (.bool (xs.all p)):=by
  have:=jW S (xs.map p)
  rw[List.map_map] at this
  have e:(xs.map fun y=>D.bool (p y))=xs.map (D.bool∘p):=rfl
  rw[e,this]
  simp[Function.comp_def]
theorem zR {rides:List aI} {ts:List T3} (hl:rides.length≤119) (h:∀t∈ts,(t.1=0∨t.1=1)∧t.2∈rides):(bT ts).length≤305:=by
  have:=dN (yw (gg ts)) (m:=(rides.map fun r=>((0:Int),r))++rides.map fun r=>((1:Int),r)) fun t ht=>by
    obtain ⟨h1,h2⟩:=h t ((gf ts).mp ht)
    obtain ⟨e,r⟩:=t
    rw[List.mem_append,List.mem_map,List.mem_map]
    rcases h1 with h1|h1
    · exact .inl ⟨r,h2,by rw[←h1]⟩
    · exact .inr ⟨r,h2,by rw[←h1]⟩
  rw[List.length_append,List.length_map,List.length_map] at this
  omega
theorem qw {S:Sto} {v:D} {ts:List T3} (h:TV v (ts.map (tD true))) (t:T3):dIn S (tD true t) v=some (decide (t∈ts)):=by
  unfold dIn
  rw[h.view]
  have h1:dok 60 (.tup (ts.map (tD true)))=true:=tEnc.tup.dok 60 ts (by omega)
  have h2:dok 60 (tD true t)=true:=tEnc.dok 60 t (by omega)
  simp only[h1,h2,Bool.and_self,if_true,List.any_map]
  congr 1
  rw[Bool.eq_iff_iff,List.any_eq_true,decide_eq_true_eq]
  constructor
  · rintro ⟨q,hq,e⟩
    have:=(tEnc.peq q t).mp e
    exact this▸hq
  · intro hr
    exact ⟨t,hr,(tEnc.peq t t).mpr rfl⟩
structure ShO (S1:Sto) (ls:List Leg) (turn:Int) (rides:List aI) (ts:List T3) (d0 d1 d2 d3 d4 d5 d6:D) (pre:List aI) (env:En) (S:Sto):Prop where
  ex:∃x7 x8 x9,env=[some d0,some d1,some d2,some d3,some d4,some d5,some d6,x7,x8,x9]∧S=S1∧∀x∈pre,∀y∈rides,cf ls turn x y=true→((0:Int),x)∈ts∨((1:Int),y)∈ts
structure ShI (S1:Sto) (ls:List Leg) (turn:Int) (rides:List aI) (ts:List T3) (d0 d1 d2 d3 d4 d5 d6:D) (pre:List aI) (x:aI) (pr:List aI) (env:En) (S:Sto):Prop where
  ex:∃x8 x9,env=[some d0,some d1,some d2,some d3,some d4,some d5,some d6,some (aF x),x8,x9]∧S=S1∧(∀x∈pre,∀y∈rides,cf ls turn x y=true→((0:Int),x)∈ts∨((1:Int),y)∈ts)∧∀y∈pr,cf ls turn x y=true→((0:Int),x)∈ts∨((1:Int),y)∈ts
theorem covB_iff {ls:List Leg} {turn:Int} {rides:List aI} {ts:List T3}:covB ls turn rides ts=true↔∀x∈rides,∀y∈rides,cf ls turn x y=true→((0:Int),x)∈ts∨((1:Int),y)∈ts:=by
  unfold covB coup
  rw[List.all_eq_true]
  constructor
  · intro h x hx y hy hc
    have:=h (x,y) (List.mem_flatMap.mpr ⟨x,hx,List.mem_map.mpr ⟨y,hy,rfl⟩⟩)
    simpa [hc] using this
  · rintro h ⟨x,y⟩ hq
    obtain ⟨x',hx,hq⟩:=List.mem_flatMap.mp hq
    obtain ⟨y',hy,e⟩:=List.mem_map.mp hq
    cases e
    cases hc:cf ls turn x y with
    | false=>rfl
    | true=>simpa [hc] using h x hx y hy hc
section
variable {S:Sto} {ps:List (Str × Int)} {ls:List Leg} {turn first last:Int} {v:D} {cs:List D}
theorem zS (H:NetOk ps ls) (ht:10≤turn∧turn≤300) (h0:0≤first) (h1:first≤last) (h2:last≤60) (hlen:(bR ls first (last+1 - first).toNat).length≤119) (hv:TV v cs) (hcs:∀d∈cs,CovE d) (hcl:cs.length≤1000) :
    Res.wp (ak [cc ps ls,.int turn,.int first,.int last,v] S) (fun r S'=>r=shD ls turn (bR ls first (last+1 - first).toNat) cs∧∃T,S'=S++T) NoE:=by
  obtain ⟨rides,hrd⟩:∃rides,rides=bR ls first (last+1 - first).toNat:=⟨_,rfl⟩
  obtain ⟨S1,hS1⟩:∃S1,S1=S++tz S.length ps ls:=⟨_,rfl⟩
  have NA:NetAt S1 S.length ps ls:=by rw[hS1]; exact pj
  have e:=kQ (S:=S1) NA H.nd H.len (fun l hl=>by have ok:=H.legs l hl; have:=kO ok.dlt ok.dbd; omega) h0 h1 h2
  have hleg:∀r∈rides,HasLeg ls r.2∧0≤r.1∧0≤r.2:=fun r hr=>by
    rw[hrd] at hr
    obtain ⟨q1,q2,q3,q4⟩:=(ik H.nd).mp hr
    have:=(H.legs _ (i4 q3)).num
    rw[pb q3] at this
    exact ⟨q3,by omega,by omega⟩
  rw[←hrd] at e hlen ⊢
  obtain ⟨S2,hS2⟩:∃S2,S2=S1++[O.lst (rides.map aF)]:=⟨_,rfl⟩
  rw[←hS2] at e
  have NA2:NetAt S2 S.length ps ls:=by rw[hS2]; exact NA.app _
  have hc:S2[S1.length]?=some (.lst (rides.map aF)):=by rw[hS2]; simp
  have hT:∃T,S2=S++T:=⟨_,by rw[hS2,hS1,List.append_assoc]⟩
  obtain ⟨c0,g0,q1,q2,q3⟩:=NA.ex
  have hit:=hv.iter (S:=S2)
  have hisi:=hv.isi (S:=S2)
  have hlv:LV S2 (.loc S1.length) (rides.map aF):=.loc hc
  unfold ak
  apply aX
  unfold dk
  simp -dsimp [i5 H,←hS1,fT ht,kU h0 h1 h2,q1,e,hisi,hit]
  refine av (f:=id) cs (fun _=>true) (fun d=>.bool (isE rides d)) (by simp) (by omega) (fun d hd=>⟨_,rfl,rfl,fun _=>?_⟩) ?_
  · have:=xQ hlv (fun r hr=>(hleg r hr).2) (hcs d hd)
    apply af
    simp -dsimp [this]
  rw[c5]
  have fa:=fAll_p S2 (isE rides) cs
  cases hall:cs.all (isE rides) with
  | false=>
    rw[hall] at fa
    have:shD ls turn rides cs=.none:=by unfold shD; rw[if_neg (by rw[hall]; simp)]
    simp -dsimp [fa,this]
    exact hT
  | true=>
    rw[hall] at fa
    obtain ⟨em,hts⟩:=uI hall
    obtain ⟨ts,hte⟩:∃ts,ts=tsC cs:=⟨_,rfl⟩
    rw[←hte] at em hts
    have hsq:=hv.seq (S:=S2)
    have h3s:iF true cs=some ts:=by rw[em]; exact lI ts
    have h305:=zR hlen hts
    have hfl:=hv.len (S:=S2)
    have hle:=(w9 (ns:=ts)).1
    have hcl2:ts.length=cs.length:=by rw[em,List.length_map]
    simp -dsimp [fa,hsq,h3s,h305,hfl]
    by_cases hn:(bT ts).length<cs.length
    · have:shD ls turn rides cs=.none:=by unfold shD; rw[if_neg (by rw[←hte]; omega)]
      simp -dsimp [hn,this]
      exact hT
    · have hn2:(bT ts).length=cs.length:=by omega
      have hcov:TV v (ts.map (tD true)):=by rw[←em]; exact hv
      have itL:bO S2 (.loc S1.length)=some (.live S1.length):=by simp[bO,hc]
      have hlr:cx S2 [.loc S1.length]=some (.int (rides.length:Nat)):=by
        have:=jw hc
        rwa [List.length_map] at this
      simp -dsimp [hn,itL]
      refine ix (f:=aF) rides (fun pre _=>ShO S2 ls turn rides ts (cc ps ls) (.int turn) (.int first) (.int last) v (.loc S.length) (.loc S1.length) pre) ?_ ⟨none,none,none,rfl,rfl,nofun⟩ ?_ ?_
      · rintro pre rest env S3 e1 ⟨x7,x8,x9,rfl,rfl,_⟩
        exact hc
      · rintro pre x rest env S3 e1 ⟨x7,x8,x9,rfl,rfl,hp⟩
        refine ⟨_,rfl,?_⟩
        have hx:x∈rides:=by rw[←e1]; simp
        simp -dsimp [itL]
        refine ix (f:=aF) rides (fun pr _=>ShI S3 ls turn rides ts (cc ps ls) (.int turn) (.int first) (.int last) v (.loc S.length) (.loc S1.length) pre x pr) ?_ ⟨x8,x9,rfl,rfl,hp,nofun⟩ ?_ ?_
        · rintro pr rest2 env S4 e2 ⟨x8,x9,rfl,rfl,_⟩
          exact hc
        · rintro pr y rest2 env S4 e2 ⟨x8,x9,rfl,rfl,hp,hq⟩
          refine ⟨_,rfl,?_⟩
          have hy:y∈rides:=by rw[←e2]; simp
          have ec:=jI (turn:=turn) H NA2 (hleg x hx).1 (hleg y hy).1
          have i0:dIn S4 (.tup [.int 0,aF x]) v=_:=qw hcov ((0:Int),x)
          have i1:dIn S4 (.tup [.int 1,aF y]) v=_:=qw hcov ((1:Int),y)
          cases hcf:cf ls turn x y with
          | false=>
            rw[hcf] at ec
            simp -dsimp [ec]
            refine ⟨_,_,rfl,rfl,hp,fun z hz hzc=>?_⟩
            rcases List.mem_append.mp hz with hz|hz
            · exact hq z hz hzc
            · rw[List.mem_singleton.mp hz,hcf] at hzc
              cases hzc
          | true=>
            rw[hcf] at ec
            by_cases b0:((0:Int),x)∈ts
            · simp -dsimp [ec,i0,b0]
              refine ⟨_,_,rfl,rfl,hp,fun z hz hzc=>?_⟩
              exact .inl b0
            · by_cases b1:((1:Int),y)∈ts
              · simp -dsimp [ec,i0,b0,i1,b1]
                refine ⟨_,_,rfl,rfl,hp,fun z hz hzc=>?_⟩
                rcases List.mem_append.mp hz with hz|hz
                · exact hq z hz hzc
                · rw[List.mem_singleton.mp hz]; exact .inr b1
              · have hno:shD ls turn rides cs=.none:=by
                  unfold shD
                  rw[if_neg]
                  rintro ⟨_,_,h⟩
                  rw[←hte] at h
                  rcases covB_iff.mp h x hx y hy hcf with h|h
                  · exact b0 h
                  · exact b1 h
                simp -dsimp [ec,i0,b0,i1,b1,hno]
                exact hT
        · rintro env S4 ⟨x8,x9,rfl,rfl,hp,hq⟩
          refine ⟨_,_,_,rfl,rfl,fun z hz=>?_⟩
          rcases List.mem_append.mp hz with hz|hz
          · exact hp z hz
          · rw[List.mem_singleton.mp hz]; exact hq
      · rintro env S3 ⟨x7,x8,x9,rfl,rfl,hp⟩
        have hyes:shD ls turn rides cs=.int ((rides.length:Int) - (cs.length:Int)):=by
          unfold shD
          rw[if_pos ⟨hall,by rw[←hte]; exact hn2,by rw[←hte]; exact covB_iff.mpr hp⟩]
        have hfl3:=hv.len (S:=S3)
        simp -dsimp [hlr,hfl3,hyes]
        exact hT
end
end DL
namespace DL
open PySem PySem.Spec PyProof.Rows L2 LamX
theorem oM {α β:Type} {f:α→β}:∀ {l:List α},l.Nodup→(∀x∈l,∀y∈l,f x=f y→x=y)→(l.map f).Nodup
  | [],_,_=>.nil
  | x::l,nd,h=>by
    rw[List.nodup_cons] at nd
    rw[List.map_cons,List.nodup_cons]
    refine ⟨fun hm=>?_,oM nd.2 fun y hy z hz=>h y (List.mem_cons_of_mem _ hy) z (List.mem_cons_of_mem _ hz)⟩
    obtain ⟨y,hy,e⟩:=List.mem_map.mp hm
    exact nd.1 (h y (List.mem_cons_of_mem _ hy) x List.mem_cons_self e▸hy)
section
variable {N:aI→List aI} {rides:List aI} {b a:RR} {E G:List aI}
theorem kW {y:aI} (h:y∈b.map (·.1)):∃x,aO b y=some x:=by
  cases e:aO b y with
  | none=>exact absurd h (lookR_none.mp e)
  | some x=>exact ⟨x,rfl⟩
theorem oN {y x:aI} (h:aO b y=some x):y∈b.map (·.1):=List.mem_map.mpr ⟨(y,x),oK h,rfl⟩
/-- no ride is ahead of two -/
def Inj (b:RR):Prop:=∀y z x,aO b y=some x→aO b z=some x→y=z
theorem Mtc.inj (M:Mtc b a):Inj b:=fun y z x h1 h2=>by
  have q1:=(M y x).mp h1
  have q2:=(M z x).mp h2
  rw[q1] at q2
  exact Option.some.inj q2
/-- a matching is no greater than what meets all pairs -/
theorem dual {ts:List T3} (M:Inj b) (G:Edg N b) (wb:Wf rides b) (cov:∀x∈rides,∀y∈N x,((0:Int),x)∈ts∨((1:Int),y)∈ts):b.length≤ts.length:=by
  obtain ⟨g,hg⟩:∃g:aI→T3,g=fun y=>if ((0:Int),(aO b y).getD (0,0))∈ts then ((0:Int),(aO b y).getD (0,0)) else ((1:Int),y):=⟨_,rfl⟩
  have key:((b.map (·.1)).map g).Nodup:=by
    refine oM wb.nd fun y1 h1 y2 h2 e=>?_
    obtain ⟨x1,e1⟩:=kW h1
    obtain ⟨x2,e2⟩:=kW h2
    rw[hg] at e
    simp only[e1,e2,Option.getD_some] at e
    split at e
    · split at e
      · have:x1=x2:=congrArg Prod.snd e
        subst this
        exact M y1 y2 x1 e1 e2
      · have:=congrArg Prod.fst e
        simp at this
    · split at e
      · have:=congrArg Prod.fst e
        simp at this
      · exact congrArg Prod.snd e
  have:=dN key (m:=ts) fun t ht=>by
    obtain ⟨y,hy,rfl⟩:=List.mem_map.mp ht
    obtain ⟨x,e⟩:=kW hy
    rw[hg]
    simp only[e,Option.getD_some]
    split
    · assumption
    · rename_i hn
      exact (cov x (wb.look e) y (G y x e)).resolve_left hn
  simpa using this
theorem cvT_mem {t:T3}:t∈cvT rides E G↔(t.1=0∧t.2∈rides∧t.2∉E)∨(t.1=1∧t.2∈rides∧t.2∈G):=by
  obtain ⟨e,r⟩:=t
  unfold cvT
  rw[List.mem_append,List.mem_map,List.mem_map]
  constructor
  · rintro (⟨q,h,e1⟩|⟨q,h,e1⟩)
    · cases e1
      obtain ⟨h1,h2⟩:=List.mem_filter.mp h
      exact .inl ⟨rfl,h1,by simpa using h2⟩
    · cases e1
      obtain ⟨h1,h2⟩:=List.mem_filter.mp h
      exact .inr ⟨rfl,h1,by simpa using h2⟩
  · rintro (⟨h1,h2,h3⟩|⟨h1,h2,h3⟩)
    · simp only at h1
      subst h1
      exact .inl ⟨r,List.mem_filter.mpr ⟨h2,by simpa using h3⟩,rfl⟩
    · simp only at h1
      subst h1
      exact .inr ⟨r,List.mem_filter.mpr ⟨h2,by simpa using h3⟩,rfl⟩
theorem vS (nd:rides.Nodup):(cvT rides E G).Nodup:=by
  unfold cvT
  rw[List.nodup_append]
  refine ⟨oM (nd.filter _) fun x _ y _ e=>congrArg Prod.snd e,oM (nd.filter _) fun x _ y _ e=>congrArg Prod.snd e,fun u hu v hv e=>?_⟩
  obtain ⟨x,_,rfl⟩:=List.mem_map.mp hu
  obtain ⟨y,_,rfl⟩:=List.mem_map.mp hv
  have:=congrArg Prod.fst e
  simp at this
theorem cv_le (P:CvP rides N b a E G) (M:Mtc b a) (nd:rides.Nodup):(cvT rides E G).length≤b.length:=by
  obtain ⟨g,hg⟩:∃g:T3→aI,g=fun t=>if t.1=0 then (aO a t.2).getD (0,0) else t.2:=⟨_,rfl⟩
  have mat:∀x∈rides,x∉E→∃y,aO a x=some y:=fun x hx hE=>by
    cases e:aO a x with
    | none=>exact absurd (P.un x hx e) hE
    | some y=>exact ⟨y,rfl⟩
  have key:((cvT rides E G).map g).Nodup:=by
    refine oM (vS nd) fun t h1 u h2 e=>?_
    obtain ⟨t1,t2⟩:=t
    obtain ⟨u1,u2⟩:=u
    rw[hg] at e
    rcases cvT_mem.mp h1 with ⟨a1,a2,a3⟩|⟨a1,a2,a3⟩
    · simp only at a1 a2 a3
      subst a1
      obtain ⟨y,ey⟩:=mat t2 a2 a3
      rcases cvT_mem.mp h2 with ⟨b1,b2,b3⟩|⟨b1,b2,b3⟩
      · simp only at b1 b2 b3
        subst b1
        obtain ⟨z,ez⟩:=mat u2 b2 b3
        simp[ey,ez] at e
        subst e
        have q1:=(M y t2).mpr ey
        have q2:=(M y u2).mpr ez
        rw[q1] at q2
        rw[Option.some.inj q2]
      · simp only at b1 b2 b3
        subst b1
        simp[ey] at e
        subst e
        obtain ⟨x,hx,ex⟩:=P.bk y b3
        have q1:=(M y t2).mpr ey
        rw[q1] at ex
        exact absurd (Option.some.inj ex▸hx) a3
    · simp only at a1 a2 a3
      subst a1
      rcases cvT_mem.mp h2 with ⟨b1,b2,b3⟩|⟨b1,b2,b3⟩
      · simp only at b1 b2 b3
        subst b1
        obtain ⟨z,ez⟩:=mat u2 b2 b3
        simp[ez] at e
        subst e
        obtain ⟨x,hx,ex⟩:=P.bk t2 a3
        have q1:=(M t2 u2).mpr ez
        rw[q1] at ex
        exact absurd (Option.some.inj ex▸hx) b3
      · simp only at b1 b2 b3
        subst b1
        simp at e
        rw[e]
  have:=dN key (m:=b.map (·.1)) fun y hy=>by
    obtain ⟨t,ht,rfl⟩:=List.mem_map.mp hy
    obtain ⟨t1,t2⟩:=t
    rw[hg]
    rcases cvT_mem.mp ht with ⟨a1,a2,a3⟩|⟨a1,a2,a3⟩
    · simp only at a1 a2 a3
      subst a1
      obtain ⟨y,ey⟩:=mat t2 a2 a3
      simp only[if_true,ey,Option.getD_some]
      exact oN ((M y t2).mpr ey)
    · simp only at a1 a2 a3
      subst a1
      obtain ⟨x,hx,ex⟩:=P.bk t2 a3
      simp only[show ¬((1:Int)=0) by omega,if_false]
      exact oN ex
  simpa using this
theorem qx (P:CvP rides N b a E G) (hN:∀x∈rides,∀y∈N x,y∈rides):∀x∈rides,∀y∈N x,((0:Int),x)∈cvT rides E G∨((1:Int),y)∈cvT rides E G:=fun x hx y hy=>by
  by_cases h:x∈E
  · exact .inr (cvT_mem.mpr (.inr ⟨rfl,hN x hx y hy,P.cl x h y hy⟩))
  · exact .inl (cvT_mem.mpr (.inl ⟨rfl,hx,h⟩))
theorem cv_len (P:CvP rides N b a E G) (M:Mtc b a) (g:Edg N b) (wb:Wf rides b) (nd:rides.Nodup) (hN:∀x∈rides,∀y∈N x,y∈rides):(cvT rides E G).length=b.length:=
  Nat.le_antisymm (cv_le P M nd) (dual M.inj g wb (qx P hN))
/-- none is greater -/
theorem mx_le {b2 a2:RR} (X:Mxm N rides b2 a2) (w2:Wf rides b2) (nd:rides.Nodup) (hN:∀x∈rides,∀y∈N x,y∈rides) (M:Inj b) (g:Edg N b) (wb:Wf rides b):b.length≤b2.length:=by
  classical
  have P:CvP rides N b2 a2 (rides.filter fun x=>decide (Und N b2 x)) (rides.filter fun y=>decide (∃L R,Cls N b2 L R∧R y)):=by
    refine ⟨nd.filter _,fun e he=>(List.mem_filter.mp he).1,nd.filter _,fun e he=>(List.mem_filter.mp he).1,fun r hr hn=>List.mem_filter.mpr ⟨hr,decide_eq_true (X.c r hr hn)⟩,fun e he y hy=>?_,fun y hy=>?_⟩
    · obtain ⟨h1,h2⟩:=List.mem_filter.mp he
      obtain ⟨L,R,C,hL⟩:=of_decide_eq_true h2
      exact List.mem_filter.mpr ⟨hN e h1 y hy,decide_eq_true ⟨L,R,C,C.out e hL y hy⟩⟩
    · obtain ⟨h1,h2⟩:=List.mem_filter.mp hy
      obtain ⟨L,R,C,hR⟩:=of_decide_eq_true h2
      obtain ⟨x,h3,h4⟩:=C.back y hR
      exact ⟨x,List.mem_filter.mpr ⟨w2.look h4,decide_eq_true ⟨L,R,C,h3⟩⟩,h4⟩
  exact Nat.le_trans (dual M g wb (qx P hN)) (cv_le P X.m nd)
theorem oO {α:Type} (p:α→Bool):∀l:List α,l.length=(l.filter p).length+(l.filter fun x=>!p x).length
  | []=>rfl
  | x::l=>by
    have:=oO p l
    cases h:p x<;>simp[h]<;>omega
/-- how many have none ahead -/
theorem vT (wb:Wf rides b) (nd:rides.Nodup):(rides.filter fun r=>(aO b r).isNone).length+b.length=rides.length:=by
  have h1:=oO (fun r=>(aO b r).isNone) rides
  have pm:(rides.filter fun r=>!(aO b r).isNone).Perm (b.map (·.1)):=(List.perm_ext_iff_of_nodup (nd.filter _) wb.nd).mpr fun y=>by
    rw[List.mem_filter]
    constructor
    · rintro ⟨_,h⟩
      cases e:aO b y with
      | none=>rw[e] at h; cases h
      | some x=>exact oN e
    · intro h
      obtain ⟨x,e⟩:=kW h
      obtain ⟨p,hp,rfl⟩:=List.mem_map.mp h
      exact ⟨wb.ks p hp,by rw[e]; rfl⟩
  have:=pm.length_eq
  rw[List.length_map] at this
  omega
end
section
variable {rides:List aI} {b a:RR} {f:aI→Int} {r:aI}
theorem kX (a:RR) (n:Nat) (r:aI):(chF a n r)[0]?=some r:=by
  cases n with
  | zero=>rfl
  | succ n=>
    unfold chF
    split<;>rfl
theorem oP (a:RR):∀(n:Nat) (r:aI) (k:Nat) (x y:aI),(chF a n r)[k]?=some x→(chF a n r)[k+1]?=some y→aO a x=some y
  | 0,r,k,x,y,_,h2=>by simp[chF] at h2
  | n+1,r,k,x,y,h1,h2=>by
    cases hz:aO a r with
    | none=>
      rw[uF hz] at h2
      simp at h2
    | some z=>
      rw[uG hz] at h1 h2
      cases k with
      | zero=>
        simp only[List.getElem?_cons_zero,Option.some.injEq] at h1
        subst h1
        rw[List.getElem?_cons_succ,kX] at h2
        cases h2
        exact hz
      | succ k=>
        rw[List.getElem?_cons_succ] at h1 h2
        exact oP a n z k x y h1 h2
theorem gx (a:RR):∀(n:Nat) (r:aI),∀q∈chF a n r,q=r∨∃z∈chF a n r,aO a z=some q
  | 0,r,q,h=>by simp[chF] at h; exact .inl h
  | n+1,r,q,h=>by
    unfold chF at h ⊢
    split at h
    · simp at h
      exact .inl h
    · rename_i z hz
      rcases List.mem_cons.mp h with h|h
      · exact .inl h
      · rcases gx a n z q h with rfl|⟨w,hw,e⟩
        · exact .inr ⟨r,List.mem_cons_self,hz⟩
        · exact .inr ⟨w,List.mem_cons_of_mem _ hw,e⟩
theorem Ao (hf:∀x y,aO a x=some y→f x<f y∧y∈rides):∀(k:Nat) (pre:List aI) (z:aI),ChI a f rides r pre z→rides.length≤k+pre.length→∃pre' z',ChI a f rides r pre' z'∧aO a z'=none:=by
  intro k
  induction k with
  | zero=>
    intro pre z h hl
    have:=h.len
    omega
  | succ k ih=>
    intro pre z h hl
    cases e:aO a z with
    | none=>exact ⟨pre,z,h,e⟩
    | some y=>exact ih (pre++[z]) y (h.go e (hf z y e).1 (hf z y e).2) (by simp; omega)
structure ChOk (a:RR) (f:aI→Int) (rides:List aI) (r:aI):Prop where
  pw:(chF a rides.length r).Pairwise fun q r=>f q<f r
  sub:∀q∈chF a rides.length r,q∈rides
  cl:∀q∈chF a rides.length r,∀y,aO a q=some y→y∈chF a rides.length r
theorem lJ (hf:∀x y,aO a x=some y→f x<f y∧y∈rides) (hr:r∈rides):ChOk a f rides r:=by
  obtain ⟨pre,z,I,e⟩:=Ao (r:=r) hf rides.length [] r ⟨⟨by simp,by simp⟩,nofun,.nil,nofun,hr⟩ (by simp)
  have ed:=I.done e
  refine ⟨?_,fun q hq=>?_,fun q hq y hy=>?_⟩
  · rw[ed,List.pairwise_append]
    exact ⟨I.pw,by simp,fun u hu v hv=>by rw[List.mem_singleton.mp hv]; exact I.up u hu⟩
  · rw[ed] at hq
    rcases List.mem_append.mp hq with hq|hq
    · exact I.sub q hq
    · rw[List.mem_singleton.mp hq]; exact I.z
  · obtain ⟨i,hi,eq⟩:=List.getElem_of_mem hq
    have g1:(chF a rides.length r)[i]?=some q:=by rw[List.getElem?_eq_getElem hi,eq]
    by_cases h:i+1<(chF a rides.length r).length
    · have g2:=List.getElem?_eq_getElem h
      have:=oP a _ r i q _ g1 g2
      rw[hy] at this
      rw[Option.some.inj this]
      exact List.getElem_mem h
    · exfalso
      have hl:i=pre.length:=by
        have:(chF a rides.length r).length=pre.length+1:=by rw[ed]; simp
        omega
      rw[ed,hl] at g1
      simp at g1
      subst g1
      rw[e] at hy
      cases hy
/-- all rides,each once -/
theorem uJ (M:Mtc b a) (nd:rides.Nodup) (wb:Wf rides b) (hf:∀x y,aO a x=some y→f x<f y∧y∈rides):((rides.filter fun r=>(aO b r).isNone).flatMap (chF a rides.length)).Perm rides:=by
  have uniq:∀(k:Nat) (q r1 r2:aI),(rides.filter fun z=>decide (f z<f q)).length≤k→r1∈rides→r2∈rides→aO b r1=none→aO b r2=none→q∈chF a rides.length r1→q∈chF a rides.length r2→r1=r2:=by
    intro k
    induction k with
    | zero=>
      intro q r1 r2 hk m1 m2 h1 h2 q1 q2
      rcases gx a _ r1 q q1 with e1|⟨z,hz,e1⟩
      · rcases gx a _ r2 q q2 with e2|⟨w,hw,e2⟩
        · rw[←e1,e2]
        · rw[e1] at e2
          rw[(M r1 w).mpr e2] at h1
          cases h1
      · have hlt:=(hf z q e1).1
        have:z∈rides.filter fun z=>decide (f z<f q):=List.mem_filter.mpr ⟨(lJ hf m1).sub z hz,by simpa using hlt⟩
        have:=List.length_pos_of_mem this
        omega
    | succ k ih=>
      intro q r1 r2 hk m1 m2 h1 h2 q1 q2
      rcases gx a _ r1 q q1 with e1|⟨z,hz,e1⟩
      · rcases gx a _ r2 q q2 with e2|⟨w,hw,e2⟩
        · rw[←e1,e2]
        · rw[e1] at e2
          rw[(M r1 w).mpr e2] at h1
          cases h1
      · rcases gx a _ r2 q q2 with e2|⟨w,hw,e2⟩
        · rw[e2] at e1
          rw[(M r2 z).mpr e1] at h2
          cases h2
        · have hzw:z=w:=by
            have p1:=(M q z).mpr e1
            have p2:=(M q w).mpr e2
            rw[p1] at p2
            exact Option.some.inj p2
          subst hzw
          refine ih z r1 r2 ?_ m1 m2 h1 h2 hz hw
          have hlt:=(hf z q e1).1
          have hzr:=(lJ hf m1).sub z hz
          have h3:(z::rides.filter fun u=>decide (f u<f z)).length≤(rides.filter fun u=>decide (f u<f q)).length:=dN (List.nodup_cons.mpr ⟨fun h=>by simp at h,nd.filter _⟩) fun u hu=>by
            rcases List.mem_cons.mp hu with rfl|hu
            · exact List.mem_filter.mpr ⟨hzr,by simpa using hlt⟩
            · obtain ⟨p1,p2⟩:=List.mem_filter.mp hu
              have p2:f u<f z:=by simpa using p2
              exact List.mem_filter.mpr ⟨p1,by simp; omega⟩
          rw[List.length_cons] at h3
          omega
  have all:∀(k:Nat) (q:aI),(rides.filter fun z=>decide (f z<f q)).length≤k→q∈rides→∃r∈rides,aO b r=none∧q∈chF a rides.length r:=by
    intro k
    induction k with
    | zero=>
      intro q hk hq
      cases e:aO b q with
      | none=>exact ⟨q,hq,e,List.mem_of_getElem? (kX a _ q)⟩
      | some z=>
        have hlt:=(hf z q ((M q z).mp e)).1
        have:z∈rides.filter fun z=>decide (f z<f q):=List.mem_filter.mpr ⟨wb.look e,by simpa using hlt⟩
        have:=List.length_pos_of_mem this
        omega
    | succ k ih=>
      intro q hk hq
      cases e:aO b q with
      | none=>exact ⟨q,hq,e,List.mem_of_getElem? (kX a _ q)⟩
      | some z=>
        have ez:=(M q z).mp e
        have hlt:=(hf z q ez).1
        have hzr:=wb.look e
        have h3:(z::rides.filter fun u=>decide (f u<f z)).length≤(rides.filter fun u=>decide (f u<f q)).length:=dN (List.nodup_cons.mpr ⟨fun h=>by simp at h,nd.filter _⟩) fun u hu=>by
          rcases List.mem_cons.mp hu with rfl|hu
          · exact List.mem_filter.mpr ⟨hzr,by simpa using hlt⟩
          · obtain ⟨p1,p2⟩:=List.mem_filter.mp hu
            have p2:f u<f z:=by simpa using p2
            exact List.mem_filter.mpr ⟨p1,by simp; omega⟩
        rw[List.length_cons] at h3
        obtain ⟨r,h4,h5,h6⟩:=ih z (by omega) hzr
        exact ⟨r,h4,h5,(lJ hf h4).cl z h6 q ez⟩
  have hmem:∀r,r∈(rides.filter fun r=>(aO b r).isNone)↔r∈rides∧aO b r=none:=fun r=>by
    rw[List.mem_filter]
    simp
  refine (List.perm_ext_iff_of_nodup ?_ nd).mpr fun q=>?_
  · rw[List.Nodup,List.pairwise_flatMap]
    refine ⟨fun r hr=>(lJ hf ((hmem r).mp hr).1).pw.imp fun {x y} h e=>by rw[e] at h; omega,?_⟩
    refine (List.Pairwise.imp_of_mem (fun {r1 r2} h1 h2 hne=>?_) (nd.filter fun r=>(aO b r).isNone))
    intro x hx y hy e
    subst e
    obtain ⟨m1,n1⟩:=(hmem r1).mp h1
    obtain ⟨m2,n2⟩:=(hmem r2).mp h2
    exact hne (uniq _ x r1 r2 (Nat.le_refl _) m1 m2 n1 n2 hx hy)
  · rw[List.mem_flatMap]
    constructor
    · rintro ⟨r,hr,hq⟩
      exact (lJ hf ((hmem r).mp hr).1).sub q hq
    · intro hq
      obtain ⟨r,h1,h2,h3⟩:=all _ q (Nat.le_refl _) hq
      exact ⟨r,(hmem r).mpr ⟨h1,h2⟩,h3⟩
end
end DL
namespace DL
open PySem PySem.Spec PyProof.Rows L2 LamX
structure LwA (S:Sto) (n l:Nat) (rides:List aI) (N:aI→List aI) (b:RR):Prop where
  ne:n≠l
  n:S[n]?=some (.dct true (rides.map fun x=>(aF x,.lst ((N x).map aF))))
  b:S[l]?=some (.dct true (rrK b))
structure LwR (S:Sto) (n l:Nat) (rides:List aI) (N:aI→List aI) (t:Nat) (b a:RR) (x:aI) (met:List aI) (v:D) (S':Sto):Prop where
  ex:∃(r:Bool) (met':List aI) (b' a':RR),v=.bool r∧LwA S' n l rides N b'∧S'[t]?=some (.lst (met'.map aF))∧Fr [t,l] S S'∧met'.Nodup∧(∀y∈met',y∈rides)∧Wf rides b'∧
    (r=false→b'=b∧GrF N b x met met')∧(r=true→GrT N b a x met b' a')
structure LwL (S:Sto) (n l:Nat) (rides:List aI) (N:aI→List aI) (t:Nat) (b:RR) (x:aI) (met pre:List aI) (env:En) (S':Sto):Prop where
  ex:∃(m0:List aI) (e3:Option D),env=[some (aF x),some (.loc n),some (.loc l),some (.loc t),e3]∧LwA S' n l rides N b∧S'[t]?=some (.lst (m0.map aF))∧Fr [t,l] S S'∧m0.Nodup∧(∀y∈m0,y∈rides)∧GrI N b pre met m0
section
variable {n l:Nat} {rides:List aI} {N:aI→List aI} {t:Nat}
theorem LwA.nexts {S:Sto} {b:RR} (h:LwA S n l rides N b) {x:aI} (hx:x∈rides):fIx S (.loc n) (aF x)=some (.lst ((N x).map aF)):=by
  rw[jv h.n,bz,if_pos rfl]
  have e:=i6 (rides.map fun x=>(x,N x)) (fun l=>D.lst (l.map aF)) x
  rw[List.map_map] at e
  have e2:(rides.map fun x=>(aF x,D.lst ((N x).map aF)))=rides.map ((fun p:aI × List aI=>(aF p.1,D.lst (p.2.map aF)))∘fun x=>(x,N x)):=rfl
  rw[e2,e]
  have:aO (rides.map fun x=>(x,N x)) x=some (N x):=by
    unfold aO
    rw[List.find?_map,Option.map_map]
    have h2:(rides.find? ((fun p:aI × List aI=>decide (p.1=x))∘fun x=>(x,N x))).isSome=true:=List.find?_isSome.mpr ⟨x,hx,by simp⟩
    obtain ⟨q,hq⟩:=Option.isSome_iff_exists.mp h2
    have h3:=List.find?_some hq
    simp at h3
    subst h3
    rw[hq]
    rfl
  rw[this]
  rfl
theorem Ap {S:Sto} {t:Nat} {m:List aI} (h:S[t]?=some (.lst (m.map aF))) (hl:m.length<1000000) (y:aI):bD S (.loc t) [aF y]=some (.none,S.set t (.lst ((m++[y]).map aF))):=by
  unfold bD
  simp only[h]
  rw[if_pos (by simpa using hl)]
  simp
theorem lw_wp (hN:∀x∈rides,∀y∈N x,y∈rides) (hl:rides.length≤100000) (tn:t≠n) (tl:t≠l):∀(k:Nat) (S:Sto) (x:aI) (met:List aI) (b a:RR),LwA S n l rides N b→S[t]?=some (.lst (met.map aF))→x∈rides→met.Nodup→(∀y∈met,y∈rides)→Wf rides b→
    Mtc b a→Edg N b→(∀y,aO a x=some y→y∈met)→rides.length<met.length+k→Res.wp (ci k [aF x,.loc n,.loc l,.loc t] S) (LwR S n l rides N t b a x met) NoE:=by
  intro k
  induction k with
  | zero=>
    intro S x met b a h hm hx nd hs wb M G hax hn
    have:=dN nd hs
    omega
  | succ k ih=>
    intro S x met b a h hm hx nd hs wb M G hax hn
    have hbl:=wb.len
    unfold ci
    apply aX
    have e1:=h.nexts hx
    simp -dsimp [e1]
    refine dU (f:=aF) (N x) (fun pre _=>LwL S n l rides N t b x met pre) rfl ⟨met,none,rfl,h,hm,.refl _ _,nd,hs,.start⟩ ?_ ?_
    · rintro pre y rest env S1 hp ⟨m0,e3,rfl,h1,hm1,f1,nd1,hs1,I⟩
      refine ⟨_,rfl,?_⟩
      have hyN:y∈N x:=by rw[←hp]; simp
      have hy:=hN x hx y hyN
      have i1:=uH (.loc hm1) y
      have hml:=dN nd1 hs1
      by_cases hym:y∈m0
      · simp -dsimp [i1,hym]
        exact ⟨m0,_,rfl,h1,hm1,f1,nd1,hs1,I.old hym⟩
      · have p1:=Ap hm1 (by omega) y
        simp -dsimp [i1,hym,bX,hm1,p1,-List.map_append]
        have htl:=(List.getElem?_eq_some_iff.mp hm1).1
        have f2:Fr [t,l] S1 (S1.set t (.lst ((m0++[y]).map aF))):=.set (by simp) _
        have h2:LwA (S1.set t (.lst ((m0++[y]).map aF))) n l rides N b:=⟨h1.ne,by rw[List.getElem?_set_ne tn]; exact h1.n,by rw[List.getElem?_set_ne tl]; exact h1.b⟩
        have hm2:(S1.set t (.lst ((m0++[y]).map aF)))[t]?=some (.lst ((m0++[y]).map aF)):=by rw[List.getElem?_set_self htl]
        have f3:Fr [t,l] S (S1.set t (.lst ((m0++[y]).map aF))):=f1.trans f2
        generalize S1.set t (.lst ((m0++[y]).map aF))=S2 at h2 hm2 f3 ⊢
        have i2:dIn S2 (aF y) (.loc l)=some (aO b y).isSome:=by rw[mL h2.b,bz,if_pos rfl,gv,Option.isSome_map]
        have nd2:(m0++[y]).Nodup:=by
          rw[List.nodup_append]
          exact ⟨nd1,by simp,fun u hu w hw e=>hym (by rw[←List.mem_singleton.mp hw,←e]; exact hu)⟩
        have hs2:∀z∈m0++[y],z∈rides:=fun z hz=>(List.mem_append.mp hz).elim (hs1 z) fun e=>by rw[List.mem_singleton.mp e]; exact hy
        have fin:∀(S3:Sto) (b1 a1:RR) (m3:List aI),LwA S3 n l rides N b1→S3[t]?=some (.lst (m3.map aF))→Fr [t,l] S S3→m3.Nodup→(∀z∈m3,z∈rides)→Wf rides b1→GrT N b a x met (io b1 y x) (io a1 x y)→
            ∃S4,bY S3 (.loc l) (aF y) (aF x)=some S4∧LwR S n l rides N t b a x met (.bool true) S4:=by
          intro S3 b1 a1 m3 k1 k2 k3 k4 k5 k6 k8
          have l6:=k6.len
          have lb:=(List.getElem?_eq_some_iff.mp k1.b).1
          have hl2:(rrK b1).length<1000000:=by unfold rrK; simp; omega
          refine ⟨S3.set l (.dct true (rrK (io b1 y x))),by simp[bY,k1.b,hl2,qt],true,m3,_,_,rfl,⟨k1.ne,by rw[List.getElem?_set_ne k1.ne.symm]; exact k1.n,by rw[List.getElem?_set_self lb]⟩,by rw[List.getElem?_set_ne tl.symm]; exact k2,k3.trans (.set (by simp) _),k4,k5,k6.put hy hx,nofun,fun _=>k8⟩
        cases hby:aO b y with
        | none=>
          obtain ⟨S4,r1,r4⟩:=fin S2 b a (m0++[y]) h2 hm2 f3 nd2 hs2 wb (.free M G hax hyN (fun z=>hym (I.sub y z)) hby)
          rw[hby] at i2
          simp -dsimp [i2,r1]
          exact r4
        | some x1=>
          have hx1:=wb.look hby
          have r0:fIx S2 (.loc l) (aF y)=some (aF x1):=by rw[jv h2.b,bz,if_pos rfl,gv,hby]; rfl
          rw[hby] at i2
          simp -dsimp [i2,r0]
          refine dR (ih S2 x1 (m0++[y]) b a h2 hm2 hx1 nd2 hs2 wb M G (fun z hz=>?_) (by have:=dN nd hs; have:=dN nd I.sub; simp; omega)) ?_
          · rw[(M y x1).mp hby] at hz
            cases hz
            simp
          · rintro v S3 ⟨r,m3,b1,a1,rfl,k1,k2,k3,k4,k5,k6,kf,kt⟩
            cases r with
            | false=>
              obtain ⟨eb,kf2⟩:=kf rfl
              rw[eb] at k1
              simp -dsimp
              exact ⟨m3,_,rfl,k1,k2,f3.trans k3,k4,k5,I.fail hby kf2⟩
            | true=>
              obtain ⟨S4,r1,r4⟩:=fin S3 b1 a1 m3 k1 k2 (f3.trans k3) k4 k5 k6 (.step M I.sub hax hyN hym hby (kt rfl))
              simp -dsimp [r1]
              exact r4
    · rintro env S1 ⟨m0,e3,rfl,h1,hm1,f1,nd1,hs1,I⟩
      simp -dsimp
      exact ⟨false,m0,b,a,rfl,h1,hm1,f1,nd1,hs1,wb,fun _=>⟨rfl,I.done⟩,nofun⟩
end
end DL
namespace DL
open PySem PySem.Spec PyProof.Rows L2 LamX
structure MnA (S0:Sto) (d0:D) (turn:Int) (rides:List aI) (N:aI→List aI) (pre:List aI) (env:En) (S:Sto):Prop where
  ex:∃x5 x6 x7,env=[some d0,some (.int turn),some (.lst (rides.map aF)),some (.loc S0.length),some (.loc (S0.length+1)),x5,x6,x7]∧S=S0++[.dct true (pre.map fun x=>(aF x,.lst ((N x).map aF))),.dct true []]
structure MnB (S0:Sto) (d0:D) (turn:Int) (rides:List aI) (N:aI→List aI) (pre:List aI) (env:En) (S:Sto):Prop where
  ex:∃x5 x6 x7 b a,env=[some d0,some (.int turn),some (.lst (rides.map aF)),some (.loc S0.length),some (.loc (S0.length+1)),x5,x6,x7]∧LwA S S0.length (S0.length+1) rides N b∧(∀i,i<S0.length→S[i]?=S0[i]?)∧S0.length+2≤S.length∧Wf rides b∧Mxm N pre b a
structure MnR (S0:Sto) (rides:List aI) (N:aI→List aI) (v:D) (S:Sto):Prop where
  ex:∃b a T,v=.int ((rides.length:Int) - (b.length:Int))∧S=S0++T∧Wf rides b∧Mxm N rides b a
section
variable {S:Sto} {ps:List (Str × Int)} {ls:List Leg} {turn:Int} {rides:List aI}
theorem Aq (H:NetOk ps ls) (hr:∀r∈rides,HasLeg ls r.2) (nd:rides.Nodup) (hl:rides.length≤119):Res.wp (gA [cc ps ls,.int turn,.lst (rides.map aF)] S) (MnR S rides (nxf ls turn rides)) NoE:=by
  unfold gA
  apply aX
  unfold n9
  simp -dsimp
  refine dU (f:=aF) rides (fun pre _=>MnA S (cc ps ls) turn rides (nxf ls turn rides) pre) rfl ⟨none,none,none,rfl,rfl⟩ ?_ ?_
  · rintro pre x rest env S1 e ⟨x5,x6,x7,rfl,rfl⟩
    refine ⟨_,rfl,?_⟩
    have hx:x∈rides:=by rw[←e]; simp
    have hxp:x∉pre:=fun z=>by
      rw[←e,List.nodup_append] at nd
      exact nd.2.2 x z x List.mem_cons_self rfl
    have hpl:pre.length<rides.length:=by rw[←e]; simp
    simp -dsimp
    refine av (f:=aF) rides (fun y=>cf ls turn x y) aF rfl (by omega) (fun y hy=>⟨_,rfl,?_,fun _=>rfl⟩) ?_
    · have q:=dq (ps:=ps) (turn:=turn) (S:=S++[.dct true (pre.map fun x=>(aF x,.lst ((nxf ls turn rides x).map aF))),.dct true []]) H (hr x hx) (hr y hy)
      apply af
      simp -dsimp [q]
    have pn:=uD (acc:=pre.map fun x=>(x,D.lst ((nxf ls turn rides x).map aF))) (r:=x) (v:=.lst ((nxf ls turn rides x).map aF)) (by rw[List.map_map]; simpa [Function.comp_def] using hxp)
    simp only[List.map_map,List.map_append,List.map_cons,List.map_nil,Function.comp_def] at pn
    have sp:bY (S++[.dct true (pre.map fun x=>(aF x,D.lst ((nxf ls turn rides x).map aF))),.dct true []]) (.loc S.length) (aF x) (.lst ((nxf ls turn rides x).map aF))=some (S++[.dct true ((pre++[x]).map fun x=>(aF x,D.lst ((nxf ls turn rides x).map aF))),.dct true []]):=by
      have g:(S++[O.dct true (pre.map fun x=>(aF x,D.lst ((nxf ls turn rides x).map aF))),.dct true []])[S.length]?=some (.dct true (pre.map fun x=>(aF x,D.lst ((nxf ls turn rides x).map aF)))):=by simp
      have hl2:(pre.map fun x=>(aF x,D.lst ((nxf ls turn rides x).map aF))).length<1000000:=by simp; omega
      unfold bY
      simp only[g,bz,hl2,and_self,if_true,pn]
      simp
    have sp2:=sp
    unfold nxf at sp2
    simp -dsimp [-List.map_append]
    unfold nxf
    rw[sp2]
    simp -dsimp [-List.map_append]
    exact ⟨_,_,_,rfl,rfl⟩
  · rintro env S1 ⟨x5,x6,x7,rfl,rfl⟩
    simp -dsimp
    refine dU (f:=aF) rides (fun pre _=>MnB S (cc ps ls) turn rides (nxf ls turn rides) pre) rfl ⟨_,_,_,[],[],rfl,⟨by simp,by simp,by simp[rrK]⟩,fun i hi=>by rw[List.getElem?_append_left hi],by simp,.nil,.nil⟩ ?_ ?_
    · rintro pre x rest env S1 e ⟨x5,x6,x7,b,a,rfl,A,k,kl,wb,M⟩
      refine ⟨_,rfl,?_⟩
      have hx:x∈rides:=by rw[←e]; simp
      have hxp:x∉pre:=fun z=>by
        rw[←e,List.nodup_append] at nd
        exact nd.2.2 x z x List.mem_cons_self rfl
      have hN:∀x∈rides,∀y∈nxf ls turn rides x,y∈rides:=fun x _ y hy=>(List.mem_filter.mp hy).1
      have A2:LwA (S1++[.lst []]) S.length (S.length+1) rides (nxf ls turn rides) b:=⟨A.ne,ah A.n _,ah A.b _⟩
      have gw:=lw_wp hN (by omega) (t:=S1.length) (by omega) (by omega) 120 (S1++[.lst []]) x [] b a A2 (by simp) hx .nil nofun wb M.m M.g (fun y hy=>absurd (M.k x (by rw[hy]; rfl)) hxp) (by simp; omega)
      simp -dsimp
      refine dR gw ?_
      rintro v S2 ⟨r,m3,b1,a1,rfl,k1,k2,k3,k4,k5,k6,kf,kt⟩
      simp -dsimp
      have hk:∀i,i<S.length→S2[i]?=S[i]?:=fun i hi=>by
        rw[k3.same i (by simp; omega),List.getElem?_append_left (by omega)]
        exact k i hi
      have hkl:S.length+2≤S2.length:=by rw[k3.len]; simp; omega
      cases r with
      | false=>
        obtain ⟨eb,kf2⟩:=kf rfl
        rw[eb] at k1 k6
        exact ⟨_,_,_,b,a,rfl,k1,hk,hkl,k6,M.no kf2⟩
      | true=>exact ⟨_,_,_,b1,a1,rfl,k1,hk,hkl,k6,M.yes hxp (kt rfl)⟩
    · rintro env S1 ⟨x5,x6,x7,b,a,rfl,A,k,kl,wb,M⟩
      have fl:=xC A.b
      have fl2:(rrK b).length=b.length:=by simp[rrK]
      rw[fl2] at fl
      simp -dsimp [fl]
      obtain ⟨T,hT⟩:=zP k (by omega)
      exact ⟨b,a,T,rfl,hT,wb,M⟩
end
end DL
namespace DL
open PySem PySem.Spec PyProof.Rows L2 LamX
def leR (a b:Int × Int):Bool:=le3 (0,a.1,a.2) (0,b.1,b.2)
theorem zT (a b:Int × Int):dle (aF a) (aF b)=leR a b:=by
  have:=pR false (0,a.1,a.2) (0,b.1,b.2)
  exact this
theorem Ar (a b:Int × Int):leR a b=true↔a.1<b.1∨(a.1=b.1∧a.2≤b.2):=by simp[leR,le3]
theorem xR (a b:Int × Int):(leR a b||leR b a)=true:=gc _ _
theorem xS {a b c:Int × Int} (h:leR a b=true) (h2:leR b c=true):leR a c=true:=ge h h2
theorem leR_pw (xs:List (Int × Int)):(xs.mergeSort leR).Pairwise fun a b=>leR a b=true:=List.pairwise_mergeSort (le:=leR) (fun _ _ _ h1 h2=>xS h1 h2) xR xs
theorem h9 {S:Sto} {d:D} (xs:List aI) (h:di S d=some (xs.map aF)) (hl:xs.length≤1000000):dP S [d]=some (.lst ((xs.mergeSort leR).map aF)):=
  k9 xs aF leR h (fun x=>rideEnc.dok 60 x (by omega)) (fun x y=>by simp[aF]) (fun x=>⟨_,_,rfl⟩) zT hl
theorem vU {xs ys:List aI} (h:xs.Perm ys) (nd:ys.Nodup):xs.mergeSort leR=ys.mergeSort leR:=by
  have inc:∀zs:List aI,zs.Nodup→Inc ((zs.mergeSort leR).map fun r=>((0:Int),r)):=fun zs hz=>by
    unfold Inc
    have hn:(zs.mergeSort leR).Nodup:=(List.mergeSort_perm zs leR).nodup_iff.mpr hz
    refine List.pairwise_map.mpr ((leR_pw zs).and hn |>.imp fun {a b} ⟨h1,h2⟩=>qa h1 fun e=>h2 (congrArg Prod.snd e))
  have e:=vA (inc xs (h.nodup_iff.mpr nd)) (inc ys nd) fun t=>by
    rw[List.mem_map,List.mem_map]
    constructor
    · rintro ⟨r,hr,e⟩
      exact ⟨r,List.mem_mergeSort.mpr (h.mem_iff.mp (List.mem_mergeSort.mp hr)),e⟩
    · rintro ⟨r,hr,e⟩
      exact ⟨r,List.mem_mergeSort.mpr (h.mem_iff.mpr (List.mem_mergeSort.mp hr)),e⟩
  have inj:∀ {l m:List aI},(l.map fun r=>((0:Int),r))=m.map (fun r=>((0:Int),r))→l=m:=by
    intro l
    induction l with
    | nil=>intro m h; cases m with
      | nil=>rfl
      | cons _ _=>cases h
    | cons x l ih=>intro m h; cases m with
      | nil=>cases h
      | cons y m=>
        rw[List.map_cons,List.map_cons] at h
        injection h with h1 h2
        have h3:x=y:=congrArg Prod.snd h1
        rw[ih h2,h3]
  exact inj e
theorem qy {ls:List Leg} (nd:(ls.map (·.num)).Nodup) (first:Int) (n:Nat):(bR ls first n).Pairwise fun x y=>leR (bB ls x,x.2) (bB ls y,y.2)=true:=by
  unfold bR
  refine List.pairwise_map.mpr ?_
  have pw:((am ls first n).mergeSort le3).Pairwise fun a b=>le3 a b=true:=List.pairwise_mergeSort (le:=le3) (fun _ _ _ h1 h2=>ge h1 h2) gc _
  refine List.Pairwise.imp_of_mem (fun {t u} ht hu h=>?_) pw
  have lv:∀t∈(am ls first n).mergeSort le3,t.1=bB ls (t.2.2,t.2.1):=fun t ht=>by
    obtain ⟨i,hi,l,hl,hd,rfl⟩:=mem_raw.mp (List.mem_mergeSort.mp ht)
    simp only[bB,ii nd hl]
    omega
  have e1:=lv t ht
  have e2:=lv u hu
  rw[Ar]
  simp only[←e1,←e2]
  simp only[le3,decide_eq_true_eq] at h
  omega
/-- the firsts of chains stand in order -/
theorem oa {rides:List aI} {ls:List Leg} (p:aI→Bool) (h:rides.Pairwise fun x y=>leR (bB ls x,x.2) (bB ls y,y.2)=true):(((rides.filter p).map fun r=>(bB ls r,r.2)).mergeSort leR)=(rides.filter p).map fun r=>(bB ls r,r.2):=by
  refine List.mergeSort_of_pairwise ?_
  exact List.pairwise_map.mpr (h.sublist List.filter_sublist)
theorem gd_inc {ts:List T3} (nd:ts.Nodup):Inc (ts.mergeSort le3):=by
  unfold Inc
  have hn:(ts.mergeSort le3).Nodup:=(List.mergeSort_perm ts le3).nodup_iff.mpr nd
  have pw:(ts.mergeSort le3).Pairwise fun a b=>le3 a b=true:=List.pairwise_mergeSort (le:=le3) (fun _ _ _ h1 h2=>ge h1 h2) gc _
  exact (pw.and hn).imp fun {a b} ⟨h1,h2⟩=>qa h1 h2
theorem wW {ts:List T3} (nd:ts.Nodup):bT (ts.mergeSort le3)=ts.mergeSort le3:=sX (gd_inc nd) fun _=>Iff.rfl
/-- what is told of the cover that fewest tells -/
theorem xT {ls:List Leg} {turn:Int} {rides:List aI} {b a:RR} {E G:List aI} (P:CvP rides (nxf ls turn rides) b a E G) (nd:rides.Nodup) :
    shD ls turn rides (((cvT rides E G).mergeSort le3).map (tD true))=.int ((rides.length:Int) - ((cvT rides E G).length:Int)):=by
  have hN:∀x∈rides,∀y∈nxf ls turn rides x,y∈rides:=fun x _ y hy=>(List.mem_filter.mp hy).1
  have hm:∀t,t∈(cvT rides E G).mergeSort le3↔t∈cvT rides E G:=fun t=>List.mem_mergeSort
  unfold shD
  rw[wV,if_pos,List.length_map,List.length_mergeSort]
  refine ⟨?_,by rw[wW (vS nd),List.length_map],covB_iff.mpr fun x hx y hy hc=>?_⟩
  · rw[List.all_map,List.all_eq_true]
    intro t ht
    show isE rides (tD true t)=true
    unfold isE
    rw[qv]
    rcases cvT_mem.mp ((hm t).mp ht) with ⟨h1,h2,_⟩|⟨h1,h2,_⟩
    · exact decide_eq_true ⟨.inl h1,h2⟩
    · exact decide_eq_true ⟨.inr h1,h2⟩
  · have:=qx P hN x hx y (List.mem_filter.mpr ⟨hy,hc⟩)
    rw[hm,hm]
    exact this
end DL
namespace DL
open PySem PySem.Spec PyProof.Rows L2 LamX
theorem vV {l:List aI} {k:Nat} {x:aI} (h:l[k]?=some x):atI (l.map aF) (k:Int)=some (aF x):=by
  rw[AR (by rw[List.length_map]; exact (List.getElem?_eq_some_iff.mp h).1)]
  simp[h]
def fsD (ls:List Leg) (pre:List aI):List D:=(pre.map fun r=>(bB ls r,r.2)).map aF
theorem As (ls:List Leg) (pre:List aI) (r:aI):fsD ls (pre++[r])=fsD ls pre++[.tup [.int (bB ls r),.int r.2]]:=by
  unfold fsD
  rw[List.map_append,List.map_append]
  rfl
theorem At (ls:List Leg) (pre:List aI):(fsD ls pre).length=pre.length:=by simp[fsD]
structure AcA (S0:Sto) (d0 d1 d2 d3:D) (ls:List Leg) (pre:List aI) (env:En) (S:Sto):Prop where
  ex:∃x5 x6 x7,env=[some d0,some d1,some d2,some d3,some (.loc S0.length),x5,x6,x7]∧S=S0++[.lst (fsD ls pre)]
structure AcB (S1:Sto) (d0 d1 d2 d3 d4:D) (a:RR) (n:Nat) (pre:List aI) (env:En) (S:Sto):Prop where
  ex:∃x5 x7,env=[some d0,some d1,some d2,some d3,some d4,x5,some (.lst ((pre.flatMap (chF a n)).map aF)),x7]∧S=S1
section
variable {S:Sto} {ps:List (Str × Int)} {ls:List Leg} {turn:Int} {rides L:List aI} {a:RR} {c n:Nat}
theorem wX {a:RR} {n:Nat}:∀L:List aI,(L.flatMap (chF a n)).length≤L.length*(n+1)
  | []=>by simp
  | r::L=>by
    have h1:=kT a n r
    have h2:=wX (a:=a) (n:=n) L
    rw[List.flatMap_cons,List.length_append,List.length_cons,Nat.add_mul]
    omega
theorem og (H:NetOk ps ls) (hc:S[c]?=some (.lst (L.map (chD a n)))) (hn:n≤119) (hL:L.length≤119) (hrl:rides.length≤119) (hleg:∀r∈L,∀q∈chF a n r,HasLeg ls q.2)
    (hch:∀r∈L,∀x y,aO a x=some y→x∈chF a n r→cf ls turn x y=true) (hp:(L.flatMap (chF a n)).Perm rides) (nd:rides.Nodup) (hfs:((L.map fun r=>(bB ls r,r.2)).mergeSort leR)=L.map fun r=>(bB ls r,r.2)) :
    Res.wp (cY [cc ps ls,.int turn,.lst (rides.map aF),.loc c] S) (fun v S'=>v=.bool true∧∃T,S'=S++T) NoE:=by
  have hit:∀T:Sto,bO (S++T) (.loc c)=some (.live c):=fun T=>by simp[bO,ah hc T]
  unfold cY
  apply aX
  unfold gr
  simp -dsimp [hit]
  refine ix (f:=chD a n) L (fun pre _=>AcA S (cc ps ls) (.int turn) (.lst (rides.map aF)) (.loc c) ls pre) ?_ ⟨none,none,none,rfl,rfl⟩ ?_ ?_
  · rintro pre rest env S1 e ⟨x5,x6,x7,rfl,rfl⟩
    exact ah hc _
  · rintro pre r rest env S1 e ⟨x5,x6,x7,rfl,rfl⟩
    refine ⟨_,rfl,?_⟩
    have hr:r∈L:=by rw[←e]; simp
    have hpl:pre.length<L.length:=by rw[←e]; simp
    obtain ⟨l,hl⟩:∃l,l=chF a n r:=⟨_,rfl⟩
    have hh:l[0]?=some r:=by rw[hl]; exact kX a n r
    have hl0:0<l.length:=(List.getElem?_eq_some_iff.mp hh).1
    have hll:l.length≤120:=by rw[hl]; have:=kT a n r; omega
    have ed:chD a n r=.tpn (l.map aF):=by rw[hl]; rfl
    have q1:dok 60 (.tup (l.map aF))=true:=rides_tup.dok 60 l (by omega)
    have q2:peq (.tup (l.map aF)) (.tup [])=false:=by
      cases q:peq (.tup (l.map aF)) (.tup []) with
      | false=>rfl
      | true=>
        have:=(rides_tup.peq l []).mp q
        rw[this] at hl0
        simp at hl0
    have sm:bU (l.length:Int)=true:=eI (by omega)
    rw[ed]
    have at0:=vV hh
    have hlv:=hY (S:=S++[O.lst (fsD ls pre)]) (ps:=ps) H.nd (by have:=H.len; omega) (hleg r hr r (by rw[←hl]; exact List.mem_of_getElem? hh))
    simp -dsimp [cG,q1,q2,sm,gD]
    refine av (f:=fun i:Nat=>D.int (1+i)) (List.range (l.length - 1)) (fun _=>false) (fun i=>D.int (1+i)) rfl (by simp; omega) (fun i hi=>⟨_,rfl,?_,nofun⟩) ?_
    · have hi:=List.mem_range.mp hi
      obtain ⟨x,g1⟩:∃x,l[i]?=some x:=⟨_,List.getElem?_eq_getElem (show i<l.length by omega)⟩
      obtain ⟨y,g2⟩:∃y,l[i+1]?=some y:=⟨_,List.getElem?_eq_getElem (show i+1<l.length by omega)⟩
      have a1:=vV g1
      have a2:=vV g2
      have m1:x∈chF a n r:=by rw[←hl]; exact List.mem_of_getElem? g1
      have m2:y∈chF a n r:=by rw[←hl]; exact List.mem_of_getElem? g2
      have ea:aO a x=some y:=oP a n r i x y (by rw[←hl]; exact g1) (by rw[←hl]; exact g2)
      have hcf:=hch r hr _ _ ea m1
      have q:=dq (ps:=ps) (turn:=turn) (S:=S++[O.lst (fsD ls pre)]) H (hleg r hr _ m1) (hleg r hr _ m2)
      rw[hcf] at q
      have e1:(1+(i:Int) - 1)=((i:Nat):Int):=by omega
      have e2:(1+(i:Int))=((i+1:Nat):Int):=by omega
      apply af
      simp -dsimp [e1,a1]
      rw[e2,a2]
      simp -dsimp [q]
    · have hf0:((List.range (l.length - 1)).filter fun _=>false)=[]:=by simp
      rw[hf0]
      have gF:(S++[O.lst (fsD ls pre)])[S.length]?=some (.lst (fsD ls pre)):=by simp
      have fl:=At ls pre
      have ap:bD (S++[O.lst (fsD ls pre)]) (.loc S.length) [.tup [.int (bB ls r),.int r.2]]=some (.none,S++[O.lst (fsD ls (pre++[r]))]):=by
        unfold bD
        simp only[gF]
        rw[if_pos (by omega),As]
        simp
      have at00:atI (l.map aF) 0=some (aF r):=at0
      have rx:∀S,fIx S (aF r) (.int 1)=some (.int r.2):=fun _=>rfl
      simp -dsimp [at00,hlv,rx,bX,gF,ap]
      exact ⟨_,_,_,rfl,rfl⟩
  · rintro env S1 ⟨x5,x6,x7,rfl,rfl⟩
    simp -dsimp [hit]
    refine ix (f:=chD a n) L (fun pre _=>AcB (S++[O.lst (fsD ls L)]) (cc ps ls) (.int turn) (.lst (rides.map aF)) (.loc c) (.loc S.length) a n pre) ?_ ⟨_,_,rfl,rfl⟩ ?_ ?_
    · rintro pre rest env S1 e ⟨x5,x7,rfl,rfl⟩
      exact ah hc _
    · rintro pre r rest env S1 e ⟨x5,x7,rfl,rfl⟩
      refine ⟨_,rfl,?_⟩
      have h1:=wX (a:=a) (n:=n) pre
      have h2:=kT a n r
      have h3:pre.length≤119:=by
        have:pre.length<L.length:=by rw[←e]; simp
        omega
      have h4:pre.length*(n+1)≤119*120:=Nat.mul_le_mul h3 (by omega)
      have fl:ow (S++[O.lst (fsD ls L)]) [chD a n r]=some (.lst ((chF a n r).map aF)):=rfl
      have hle:(pre.flatMap (chF a n)).length+(chF a n r).length≤1000000:=by omega
      simp -dsimp [fl,hle,-List.length_flatMap]
      refine ⟨some (chD a n r),x7,?_,rfl⟩
      rw[List.flatMap_append,List.map_append]
      simp
    · rintro env S1 ⟨x5,x7,rfl,rfl⟩
      have h1:=hp.length_eq
      have s1:=h9 (S:=S++[O.lst (fsD ls L)]) (d:=.lst ((L.flatMap (chF a n)).map aF)) (L.flatMap (chF a n)) rfl (by omega)
      have s2:=h9 (S:=S++[O.lst (fsD ls L)]) (d:=.lst (rides.map aF)) rides rfl (by omega)
      rw[vU hp nd] at s1
      have gF:(S++[O.lst (fsD ls L)])[S.length]?=some (.lst (fsD ls L)):=by simp
      have s3:=h9 (S:=S++[O.lst (fsD ls L)]) (d:=.loc S.length) (L.map fun r=>(bB ls r,r.2)) (nV gF) (by simp; omega)
      rw[hfs] at s3
      have s4:dP (S++[O.lst (fsD ls L)]) [.loc S.length]=some (.lst (fsD ls L)):=s3
      have w1:dok 60 (.lst ((rides.mergeSort leR).map aF))=true:=rideEnc.lst.dok 60 _ (by omega)
      have w2:peq (.lst ((rides.mergeSort leR).map aF)) (.lst ((rides.mergeSort leR).map aF))=true:=(rideEnc.lst.peq _ _).mpr rfl
      have w3:dok 60 (.lst (fsD ls L))=true:=rideEnc.lst.dok 60 _ (by omega)
      have w4:peq (.lst (fsD ls L)) (.lst (fsD ls L))=true:=(rideEnc.lst.peq _ _).mpr rfl
      simp -dsimp [s1,s2,w1,w2,s4,gF,w3,w4]
end
end DL
namespace DL
open PySem PySem.Spec PyProof.Rows L2 LamX
theorem qz:hdK "BadCount" []=some (.str "BadCount"):=by
  unfold hdK hdOf
  rw[if_pos ⟨by decide +kernel,show ([]:List Str)=fF "BadCount" by decide +kernel⟩]
  rfl
theorem vW:hdK "BadDay" []=some (.str "BadDay"):=by
  unfold hdK hdOf
  rw[if_pos ⟨by decide +kernel,show ([]:List Str)=fF "BadDay" by decide +kernel⟩]
  rfl
def i7 (d:D):Prop:=(∃t,∀S,g4 S d=some t)∧dC d 10 300=false
section
variable {S:Sto} {ps:List (Str × Int)} {ls:List Leg} {turn:Int} {d v:D}
theorem uK {r:Res D} (h:Res.wp r (fun _ _=>False) (fun e S'=>e=⟨"BadCount",[]⟩∧∃X,S'=S++X)):∃X,fh hdK r=.ok (.str "BadCount") (S++X):=by
  cases r with
  | ok a S1=>rw[eh] at h; exact h.elim
  | exc e S1=>
    rw[qV] at h
    obtain ⟨rfl,X,rfl⟩:=h
    exact ⟨X,by unfold fh; simp[qz]⟩
  | stuck=>simp at h
theorem zU {r:Res D} (h:Res.wp r (fun _ _=>False) (fun e S'=>e=⟨"BadDay",[]⟩∧∃X,S'=S++X)):∃X,fh hdK r=.ok (.str "BadDay") (S++X):=by
  cases r with
  | ok a S1=>rw[eh] at h; exact h.elim
  | exc e S1=>
    rw[qV] at h
    obtain ⟨rfl,X,rfl⟩:=h
    exact ⟨X,by unfold fh; simp[vW]⟩
  | stuck=>simp at h
theorem uL (h:i7 d):cI [d] S=.exc ⟨"BadCount",[]⟩ S:=by
  obtain ⟨⟨t,ht⟩,hn⟩:=h
  have q:=gE (S:=S) 10 300 (ht S)
  rw[hn] at q
  apply pc
  unfold cI
  apply aX
  unfold ia
  simp -dsimp [q]
theorem uM:cH [.int 9,.int 8] S=.exc ⟨"BadDay",[]⟩ S:=by
  apply pc
  unfold cH
  apply aX
  unfold iZ
  simp -dsimp
theorem rA (H:NetOk ps ls) (h:i7 d):Res.wp (bw [cc ps ls,d,.int 9,.int 8] S) (fun _ _=>False) (fun e S'=>e=⟨"BadCount",[]⟩∧∃X,S'=S++X):=by
  unfold bw
  apply aX
  unfold kE
  simp -dsimp [i5 H,uL h]
theorem vX (H:NetOk ps ls) (h:10≤turn∧turn≤300):Res.wp (bw [cc ps ls,.int turn,.int 9,.int 8] S) (fun _ _=>False) (fun e S'=>e=⟨"BadDay",[]⟩∧∃X,S'=S++X):=by
  unfold bw
  apply aX
  unfold kE
  simp -dsimp [i5 H,fT h,uM]
theorem uN (H:NetOk ps ls) (h:i7 d):Res.wp (ak [cc ps ls,d,.int 9,.int 8,v] S) (fun _ _=>False) (fun e S'=>e=⟨"BadCount",[]⟩∧∃X,S'=S++X):=by
  unfold ak
  apply aX
  unfold dk
  simp -dsimp [i5 H,uL h]
theorem xU (H:NetOk ps ls) (h:10≤turn∧turn≤300):Res.wp (ak [cc ps ls,.int turn,.int 9,.int 8,v] S) (fun _ _=>False) (fun e S'=>e=⟨"BadDay",[]⟩∧∃X,S'=S++X):=by
  unfold ak
  apply aX
  unfold dk
  simp -dsimp [i5 H,fT h,uM]
theorem zV:PyData.strOk "BadCount"=true∧PyData.strOk "BadDay"=true:=by decide +kernel
theorem Au {a0 a1 a2 a5 a6 a7 a8 a9 a10 a11 a12 a14 a15 a16 a17 a18:Option D} (H:NetOk ps ls) (ht:10≤turn∧turn≤300) (hd:i7 d):∃X,sK 19 gu [a0,a1,a2,some (cc ps ls),some (.int turn),a5,a6,a7,a8,a9,a10,a11,a12,some d,a14,a15,a16,a17,a18] S =
    .next [a0,a1,a2,some (cc ps ls),some (.int turn),a5,a6,a7,a8,a9,a10,a11,a12,some d,none,a15,a16,a17,a18] (S++X):=by
  obtain ⟨X1,e1⟩:=uK (rA (S:=S) H hd)
  obtain ⟨X2,e2⟩:=zU (vX (S:=S++X1) H ht)
  obtain ⟨X3,e3⟩:=uK (uN (S:=S++X1++X2) (v:=.int 0) H hd)
  obtain ⟨X4,e4⟩:=zU (xU (S:=S++X1++X2++X3) (v:=.int 0) H ht)
  refine ⟨X1++(X2++(X3++X4)),?_⟩
  simp only[List.append_assoc] at e1 e2 e3 e4
  obtain ⟨w1,w2⟩:=zV
  have ek:∀x14,eG hdK [14,15] eQ [a0,a1,a2,some (cc ps ls),some (.int turn),a5,a6,a7,a8,a9,a10,a11,a12,some d,x14,a15,a16,a17,a18] S=.ok (.lst [.str "BadCount",.str "BadDay",.str "BadCount",.str "BadDay"]) (S++(X1++(X2++(X3++X4)))):=fun x14=>by
    simp[eG,g7,eQ,aU,e1,e2,e3,e4]
  unfold sK gu oC
  simp[oV,aU,ek,w1,w2]
end
end DL
namespace DL
open PySem PySem.Spec PyProof.Rows L2 LamX
theorem len17 {α:Type} {l:List α} (h:l.length=17):∃a b c d e f g i j k m n o p q r s,l=[a,b,c,d,e,f,g,i,j,k,m,n,o,p,q,r,s]:=by
  match l,h with
  | [a,b,c,d,e,f,g,i,j,k,m,n,o,p,q,r,s],_=>exact ⟨a,b,c,d,e,f,g,i,j,k,m,n,o,p,q,r,s,rfl⟩
structure OutI (sc:List Int) (env:En) (S:Sto):Prop where
  ex:∃o T tail,Dr sc o∧tail.length=17∧env=[some (.ro (sc.map .int)),some (.loc 0)]++tail∧S=o::T
structure PoI (front:En) (back:En) (S0:Sto) (env:En) (S:Sto):Prop where
  ex:∃x11 x12,env=front++[x11,x12]++back∧S=S0
structure PiI (front:En) (x11:Option D) (back:En) (S0:Sto) (env:En) (S:Sto):Prop where
  ex:∃x12,env=front++[x11,x12]++back∧S=S0
theorem Av:∀d∈[D.int 9,.int 301,.bool true,.none,.str "30"],i7 d:=by
  intro d hd
  simp only[List.mem_cons,List.not_mem_nil,or_false] at hd
  rcases hd with rfl|rfl|rfl|rfl|rfl
  · exact ⟨⟨"int",fun _=>rfl⟩,by decide⟩
  · exact ⟨⟨"int",fun _=>rfl⟩,by decide⟩
  · exact ⟨⟨"bool",fun _=>rfl⟩,rfl⟩
  · exact ⟨⟨"NoneType",fun _=>rfl⟩,rfl⟩
  · exact ⟨⟨"str",fun _=>rfl⟩,rfl⟩
theorem xV (sc:List Int):Res.wp (tr [.ro (sc.map .int)] []) (fun v _=>v=.bool true) NoE:=by
  unfold tr
  apply aX
  unfold b_law
  simp -dsimp
  refine zE fun o1 d1=>?_
  simp -dsimp [gD]
  refine dU (f:=fun i:Nat=>D.int i) (List.range 2) (fun _ _=>OutI sc) (by rfl) ⟨o1,[],_,d1,rfl,rfl,rfl⟩ ?_ ?_
  · rintro pre i rest env S hp ⟨o2,T,tail,d2,ht,rfl,rfl⟩
    obtain ⟨x2,x3,x4,x5,x6,x7,x8,x9,x10,x11,x12,x13,x14,x15,x16,x17,x18,rfl⟩:=len17 ht
    refine ⟨([some (.ro (sc.map .int)),some (.loc 0),some (.int i),x3,x4,x5,x6,x7,x8,x9,x10,x11,x12,x13,x14,x15,x16,x17,x18],o2::T),rfl,?_⟩
    simp -dsimp
    refine wp_net d2 fun ps ls o3 j H d3=>?_
    generalize T++[j]=T1
    have hll:=H.len
    have nd:=H.nd
    have hdl:∀l∈ls,l.days.length≤1000:=fun l hl=>by have ok:=H.legs l hl; have:=kO ok.dlt ok.dbd; omega
    simp -dsimp
    refine aY d3 (by omega) (by omega) fun v1 o4 d4 a1 a2=>?_
    simp -dsimp
    refine aY d4 (by omega) (by omega) fun v2 o5 d5 b1 b2=>?_
    obtain ⟨turn,hm,hm1,hm2⟩:∃turn:Int,atI [D.int 30,D.int 10,D.int 60,D.int (10+v1)] v2=some (.int turn)∧10≤turn∧turn≤300:=by
      rcases (show v2=0∨v2=1∨v2=2∨v2=3 by omega) with rfl|rfl|rfl|rfl
      · exact ⟨30,rfl,by omega,by omega⟩
      · exact ⟨10,rfl,by omega,by omega⟩
      · exact ⟨60,rfl,by omega,by omega⟩
      · exact ⟨10+v1,rfl,by omega,by omega⟩
    simp -dsimp [hm]
    refine aY d5 (by omega) (by omega) fun first o6 d6 f1 f2=>?_
    have hnet1:∀S',fIx S' (cc ps ls) (.int 1)=some (.tpn (ls.map Leg.d)):=fun _=>rfl
    have hfew:=H.few
    obtain ⟨kk,mf,e1,e2,g1,g2,g3⟩:∃(kk mf:Int),(∀S,qL S [D.bool (decide ((ls.length:Int)<7))]=some (.int kk))∧atI [D.int 3,D.int 7] kk=some (.int mf)∧0<mf∧mf≤7∧mf.toNat*ls.length≤84:=by
      by_cases h7:(ls.length:Int)<7
      · have h6:(7:Int).toNat*ls.length≤7*6:=Nat.mul_le_mul (by omega) (by omega)
        exact ⟨1,7,fun S=>by rw[decide_eq_true h7]; rfl,rfl,by omega,by omega,by omega⟩
      · have h6:(3:Int).toNat*ls.length≤3*28:=Nat.mul_le_mul (by omega) hfew
        exact ⟨0,3,fun S=>by rw[decide_eq_false h7]; rfl,rfl,by omega,by omega,by omega⟩
    simp -dsimp [hnet1,e1,e2]
    refine aY d6 (by omega) (by omega) fun more o7 d7 m1 m2=>?_
    obtain ⟨last,hlast⟩:∃last,last=min 60 (first+more):=⟨_,rfl⟩
    have hl1:first≤last:=by omega
    have hl2:last≤60:=by omega
    simp -dsimp [←hlast]
    refine zK hll hdl (by omega) (by omega) (by omega) fun j1=>?_
    have hmin:min 60 last=last:=by omega
    rw[hmin]
    have hlen:(bR ls first (last+1 - first).toNat).length≤119:=by
      have h4:=uA ls first (last+1 - first).toNat
      have:(last+1 - first).toNat*ls.length≤mf.toNat*ls.length:=Nat.mul_le_mul (by omega) (Nat.le_refl _)
      omega
    have hleg:∀r∈bR ls first (last+1 - first).toNat,HasLeg ls r.2:=fun r hr=>((ik nd).mp hr).2.2.1
    have rnd:=oL nd first (last+1 - first).toNat
    have rso:=qy nd first (last+1 - first).toNat
    have fw:=fun S=>xP (S:=S) H ⟨hm1,hm2⟩ (by omega:0≤first) hl1 hl2 hlen
    have sw:=fun (S:Sto) (v:D) (cs:List D) (hv:TV v cs) (hcs:∀d∈cs,CovE d) (hcl:cs.length≤1000)=>zS (S:=S) H ⟨hm1,hm2⟩ (by omega:0≤first) hl1 hl2 hlen hv hcs hcl
    generalize bR ls first (last+1 - first).toNat=rides at hleg hlen fw sw rnd rso
    rw[List.cons_append]
    generalize T1++[j1]=T2
    simp -dsimp
    refine dR (fw (o7::T2)) ?_
    rintro v S ⟨U,c,b,a,E,G,L,rfl,rfl,hcS,hcL,hL,M,wb,wa,P⟩
    obtain ⟨gd,hgd⟩:∃gd,gd=(cvT rides E G).mergeSort le3:=⟨_,rfl⟩
    have hN:∀x∈rides,∀y∈nxf ls turn rides x,y∈rides:=fun x _ y hy=>(List.mem_filter.mp hy).1
    have clen:=cv_len P M.m M.g wb rnd hN
    have slen:=vT wb rnd
    rw[←hL] at slen
    have gl:gd.length=b.length:=by rw[hgd,List.length_mergeSort,clen]
    have bl:=wb.len
    have sd:shD ls turn rides (gd.map (tD true))=.int (L.length:Nat):=by
      rw[hgd,xT P rnd,clen]
      congr 1
      omega
    have gso:bT gd=gd:=by rw[hgd]; exact wW (vS rnd)
    have gcv:∀x∈rides,∀y∈rides,cf ls turn x y=true→((0:Int),x)∈gd∨((1:Int),y)∈gd:=fun x hx y hy hc=>by
      have:=qx P hN x hx y (List.mem_filter.mpr ⟨hy,hc⟩)
      rw[hgd,List.mem_mergeSort,List.mem_mergeSort]
      exact this
    have hf:∀x y,aO a x=some y→bB ls x<bB ls y∧y∈rides:=fun x y e=>by
      have hx:x∈rides:=M.k x (by rw[e]; rfl)
      obtain ⟨h4,h5⟩:=List.mem_filter.mp (M.g y x ((M.m y x).mpr e))
      exact ⟨cf_lt H hm1 (hleg x hx) h5,h4⟩
    have Lsub:∀r∈L,r∈rides:=fun r hr=>by rw[hL] at hr; exact (List.mem_filter.mp hr).1
    have chl:∀r∈L,∀q∈chF a rides.length r,HasLeg ls q.2:=fun r hr q hq=>hleg q ((lJ hf (Lsub r hr)).sub q hq)
    have chc:∀r∈L,∀x y,aO a x=some y→x∈chF a rides.length r→cf ls turn x y=true:=fun r hr x y e _=>(List.mem_filter.mp (M.g y x ((M.m y x).mpr e))).2
    have chp:(L.flatMap (chF a rides.length)).Perm rides:=by rw[hL]; exact uJ M.m rnd wb hf
    have chs:((L.map fun r=>(bB ls r,r.2)).mergeSort leR)=L.map fun r=>(bB ls r,r.2):=by rw[hL]; exact oa _ rso
    rw[←hgd]
    rw[List.cons_append] at hcL ⊢
    generalize T2++U=T3 at hcL ⊢
    simp -dsimp
    refine dR (Aq H hleg rnd hlen) ?_
    rintro v S ⟨b2,a2,U2,rfl,rfl,wb2,M2⟩
    have q1:=mx_le M wb rnd hN M2.m.inj M2.g wb2
    have q2:=mx_le M2 wb2 rnd hN M.m.inj M.g wb
    have q3:(rides.length:Int) - (b2.length:Int)=(L.length:Nat):=by omega
    rw[q3]
    have c2:(o7::T3++U2)[c]?=some (.lst (L.map (chD a rides.length))):=ah hcL _
    rw[List.cons_append] at c2 ⊢
    generalize T3++U2=T4 at c2 ⊢
    have fl2:=jw c2
    rw[List.length_map] at fl2
    have ty2:cG (o7::T4) [.loc c,.ty "list"]=some (.bool true):=by simp[cG,g4,c2]
    simp -dsimp [fl2,ty2]
    have hLl:L.length≤119:=by omega
    refine dR (og H c2 hlen hLl hlen chl chc chp rnd chs) ?_
    rintro v S ⟨rfl,U3,rfl⟩
    rw[List.cons_append]
    generalize T4++U3=T5
    have tv:TV (.tpn (gd.map (tD true))) (gd.map (tD true)):=.inr rfl
    have ty3:=tv.isi (S:=o7::T5)
    have fL:ow (o7::T5) [.tpn (gd.map (tD true))]=some (.lst (gd.map (tD true))):=rfl
    have sq:=tv.seq (S:=o7::T5)
    have t3:=lI gd
    have s305:gd.length≤305:=by omega
    have w1:dok 60 (.lst (gd.map (tD true)))=true:=tEnc.lst.dok 60 gd (by omega)
    have w2:peq (.lst (gd.map (tD true))) (.lst (gd.map (tD true)))=true:=(tEnc.lst.peq gd gd).mpr rfl
    simp -dsimp [ty3,fL,sq,t3,s305,gso,w1,w2]
    refine dR (sw (o7::T5) _ _ tv (fun d hd=>by
      obtain ⟨t,_,rfl⟩:=List.mem_map.mp hd
      exact .inl ⟨t,rfl⟩) (by simp; omega)) ?_
    rintro v S ⟨rfl,U4,rfl⟩
    rw[sd,List.cons_append]
    generalize T5++U4=T6
    simp -dsimp
    refine dU (f:=aF) rides (fun _ _=>PoI [some (.ro (sc.map .int)),some (.loc 0),some (.int i),some (cc ps ls),some (.int turn),some (.int first),some (.int last),some (.lst (rides.map aF)),some (.int (L.length:Nat)),some (.loc c),some (.tpn (gd.map (tD true)))] [x13,x14,x15,x16,x17,x18] (o7::T6)) rfl ⟨_,_,rfl,rfl⟩ ?_ ?_
    · rintro pre1 x rest1 env S e3 ⟨y11,y12,rfl,rfl⟩
      refine ⟨([some (.ro (sc.map .int)),some (.loc 0),some (.int i),some (cc ps ls),some (.int turn),some (.int first),some (.int last),some (.lst (rides.map aF)),some (.int (L.length:Nat)),some (.loc c),some (.tpn (gd.map (tD true))),some (aF x),y12,x13,x14,x15,x16,x17,x18],o7::T6),rfl,?_⟩
      have hx:x∈rides:=by rw[←e3]; simp
      simp -dsimp
      refine dU (f:=aF) rides (fun _ _=>PiI [some (.ro (sc.map .int)),some (.loc 0),some (.int i),some (cc ps ls),some (.int turn),some (.int first),some (.int last),some (.lst (rides.map aF)),some (.int (L.length:Nat)),some (.loc c),some (.tpn (gd.map (tD true)))] (some (aF x)) [x13,x14,x15,x16,x17,x18] (o7::T6)) rfl ⟨_,rfl,rfl⟩ ?_ ?_
      · rintro pre2 y rest2 env S e4 ⟨z12,rfl,rfl⟩
        refine ⟨([some (.ro (sc.map .int)),some (.loc 0),some (.int i),some (cc ps ls),some (.int turn),some (.int first),some (.int last),some (.lst (rides.map aF)),some (.int (L.length:Nat)),some (.loc c),some (.tpn (gd.map (tD true))),some (aF x),some (aF y),x13,x14,x15,x16,x17,x18],o7::T6),rfl,?_⟩
        have hy:y∈rides:=by rw[←e4]; simp
        have lc:=dq (ps:=ps) (turn:=turn) (S:=o7::T6) H (hleg x hx) (hleg y hy)
        have i0:dIn (o7::T6) (.tup [.int 0,aF x]) (.tpn (gd.map (tD true)))=_:=qw tv ((0:Int),x)
        have i1:dIn (o7::T6) (.tup [.int 1,aF y]) (.tpn (gd.map (tD true)))=_:=qw tv ((1:Int),y)
        cases hcf:cf ls turn x y with
        | false=>
          rw[hcf] at lc
          simp -dsimp [lc]
          exact ⟨_,rfl,rfl⟩
        | true=>
          rw[hcf] at lc
          rcases gcv x hx y hy hcf with h|h
          · simp -dsimp [lc,i0,h]
            exact ⟨_,rfl,rfl⟩
          · by_cases h0:((0:Int),x)∈gd
            · simp -dsimp [lc,i0,h0]
              exact ⟨_,rfl,rfl⟩
            · simp -dsimp [lc,i0,h0,i1,h]
              exact ⟨_,rfl,rfl⟩
      · rintro env S ⟨z12,rfl,rfl⟩
        exact ⟨_,_,rfl,rfl⟩
    · rintro env S ⟨y11,y12,rfl,rfl⟩
      have fc:=tv.len (S:=o7::T6)
      rw[List.length_map] at fc
      have q4:((rides.length:Int) - (gd.length:Int))=(L.length:Nat):=by omega
      simp -dsimp [fc,q4]
      refine aY d7 (by omega) (by omega) fun w o8 d8 w0 w1=>?_
      obtain ⟨od,h1,h2⟩:=vM (xs:=[D.int 9,.int 301,.bool true,.none,.str "30"]) w0 (by simpa using w1) i7 Av
      simp -dsimp [h1]
      obtain ⟨X,hX⟩:=Au (S:=o8::T6) (a0:=some (.ro (sc.map .int))) (a1:=some (.loc 0)) (a2:=some (.int i)) (a5:=some (.int first)) (a6:=some (.int last)) (a7:=some (.lst (rides.map aF))) (a8:=some (.int (L.length:Nat))) (a9:=some (.loc c)) (a10:=some (.tpn (gd.map (tD true)))) (a11:=y11) (a12:=y12) (a14:=x14) (a15:=x15) (a16:=x16) (a17:=x17) (a18:=x18) H ⟨hm1,hm2⟩ h2
      rw[hX]
      simp -dsimp
      exact ⟨o8,_,[_,_,_,_,_,_,_,_,_,_,_,_,_,_,_,_,_],d8,rfl,rfl,rfl⟩
  · rintro env S ⟨o2,T,tail,d2,ht,rfl,rfl⟩
    simp -dsimp
end DL
namespace DL
open PySem PySem.Spec PyProof.Rows L2 LamX
theorem hFx {K:PySem.W.Frag} {w:World} {h:Heap} {mg:Str→Option Value} (X:K.In h) (G:h.Ns mainGlobals mg) (c:He.SaysX hAll hFn vY hTf hEx w h K):Fx K mg where
  a_Matcher_ahead:=He.noat_ok (c.t.d.fact 0 (f:=.noat "Matcher" "ahead") rfl)
  a_Matcher_behind:=He.noat_ok (c.t.d.fact 1 (f:=.noat "Matcher" "behind") rfl)
  a_Matcher_every:=He.noat_ok (c.t.d.fact 2 (f:=.noat "Matcher" "every") rfl)
  a_Matcher_nexts:=He.noat_ok (c.t.d.fact 3 (f:=.noat "Matcher" "nexts") rfl)
  a_Net_changes:=He.noat_ok (c.t.d.fact 4 (f:=.noat "Net" "changes") rfl)
  a_Net_legs:=He.noat_ok (c.t.d.fact 5 (f:=.noat "Net" "legs") rfl)
  c_Matcher:=He.cls_ok (c.t.d.fact 6 (f:=.cls "Matcher") rfl)
  c_Net:=He.cls_ok (c.t.d.fact 7 (f:=.cls "Net") rfl)
  d_AirError:=He.glo_ok X G (c.t.d.fact 8 (f:=.glo "AirError") rfl)
  d_BadChain:=He.glo_ok X G (c.t.d.fact 9 (f:=.glo "BadChain") rfl)
  d_BadClasses:=He.glo_ok X G (c.t.d.fact 10 (f:=.glo "BadClasses") rfl)
  d_BadCount:=He.glo_ok X G (c.t.d.fact 11 (f:=.glo "BadCount") rfl)
  d_BadDay:=He.glo_ok X G (c.t.d.fact 12 (f:=.glo "BadDay") rfl)
  d_BadDeed:=He.glo_ok X G (c.t.d.fact 13 (f:=.glo "BadDeed") rfl)
  d_BadFleet:=He.glo_ok X G (c.t.d.fact 14 (f:=.glo "BadFleet") rfl)
  d_BadName:=He.glo_ok X G (c.t.d.fact 15 (f:=.glo "BadName") rfl)
  d_BadNet:=He.glo_ok X G (c.t.d.fact 16 (f:=.glo "BadNet") rfl)
  d_BadPlace:=He.glo_ok X G (c.t.d.fact 17 (f:=.glo "BadPlace") rfl)
  d_BadText:=He.glo_ok X G (c.t.d.fact 18 (f:=.glo "BadText") rfl)
  d_BadTime:=He.glo_ok X G (c.t.d.fact 19 (f:=.glo "BadTime") rfl)
  d_CannotFly:=He.glo_ok X G (c.t.d.fact 20 (f:=.glo "CannotFly") rfl)
  d_Left:=He.glo_ok X G (c.t.d.fact 21 (f:=.glo "Left") rfl)
  d_Matcher:=He.glo_ok X G (c.t.d.fact 22 (f:=.glo "Matcher") rfl)
  d_Net:=He.glo_ok X G (c.t.d.fact 23 (f:=.glo "Net") rfl)
  d_NoBooking:=He.glo_ok X G (c.t.d.fact 24 (f:=.glo "NoBooking") rfl)
  d_NoClass:=He.glo_ok X G (c.t.d.fact 25 (f:=.glo "NoClass") rfl)
  d_NoDuty:=He.glo_ok X G (c.t.d.fact 26 (f:=.glo "NoDuty") rfl)
  d_NoKind:=He.glo_ok X G (c.t.d.fact 27 (f:=.glo "NoKind") rfl)
  d_NoLeg:=He.glo_ok X G (c.t.d.fact 28 (f:=.glo "NoLeg") rfl)
  d_NoPlane:=He.glo_ok X G (c.t.d.fact 29 (f:=.glo "NoPlane") rfl)
  d_NoSeat:=He.glo_ok X G (c.t.d.fact 30 (f:=.glo "NoSeat") rfl)
  d_NoWay:=He.glo_ok X G (c.t.d.fact 31 (f:=.glo "NoWay") rfl)
  d_Taken:=He.glo_ok X G (c.t.d.fact 32 (f:=.glo "Taken") rfl)
  d_Unmended:=He.glo_ok X G (c.t.d.fact 33 (f:=.glo "Unmended") rfl)
  d__law_are_chains:=He.glo_ok X G (c.t.d.fact 34 (f:=.glo "_law_are_chains") rfl)
  d__law_can_follow:=He.glo_ok X G (c.t.d.fact 35 (f:=.glo "_law_can_follow") rfl)
  d__law_drawn:=He.glo_ok X G (c.t.d.fact 36 (f:=.glo "_law_drawn") rfl)
  d__law_grown:=He.glo_ok X G (c.t.d.fact 37 (f:=.glo "_law_grown") rfl)
  d__law_kind:=He.glo_ok X G (c.t.d.fact 38 (f:=.glo "_law_kind") rfl)
  d__law_leave:=He.glo_ok X G (c.t.d.fact 39 (f:=.glo "_law_leave") rfl)
  d__law_leg:=He.glo_ok X G (c.t.d.fact 40 (f:=.glo "_law_leg") rfl)
  d__law_many:=He.glo_ok X G (c.t.d.fact 41 (f:=.glo "_law_many") rfl)
  d__law_net:=He.glo_ok X G (c.t.d.fact 42 (f:=.glo "_law_net") rfl)
  d__law_rides:=He.glo_ok X G (c.t.d.fact 43 (f:=.glo "_law_rides") rfl)
  d__law_shuttle:=He.glo_ok X G (c.t.d.fact 44 (f:=.glo "_law_shuttle") rfl)
  d__law_start:=He.glo_ok X G (c.t.d.fact 45 (f:=.glo "_law_start") rfl)
  d_are_days:=He.glo_ok X G (c.t.d.fact 46 (f:=.glo "are_days") rfl)
  d_can_follow:=He.glo_ok X G (c.t.d.fact 47 (f:=.glo "can_follow") rfl)
  d_fewest:=He.glo_ok X G (c.t.d.fact 48 (f:=.glo "fewest") rfl)
  d_is_end:=He.glo_ok X G (c.t.d.fact 49 (f:=.glo "is_end") rfl)
  d_is_leg:=He.glo_ok X G (c.t.d.fact 50 (f:=.glo "is_leg") rfl)
  d_is_number:=He.glo_ok X G (c.t.d.fact 51 (f:=.glo "is_number") rfl)
  d_is_place:=He.glo_ok X G (c.t.d.fact 52 (f:=.glo "is_place") rfl)
  d_is_word:=He.glo_ok X G (c.t.d.fact 53 (f:=.glo "is_word") rfl)
  d_need_days:=He.glo_ok X G (c.t.d.fact 54 (f:=.glo "need_days") rfl)
  d_need_net:=He.glo_ok X G (c.t.d.fact 55 (f:=.glo "need_net") rfl)
  d_need_turn:=He.glo_ok X G (c.t.d.fact 56 (f:=.glo "need_turn") rfl)
  d_shown_planes:=He.glo_ok X G (c.t.d.fact 57 (f:=.glo "shown_planes") rfl)
  i_DAY:=He.int_ok X G (c.t.d.fact 58 (f:=.int "DAY" 1440) rfl)
  i_LEAST_CHANGE:=He.int_ok X G (c.t.d.fact 59 (f:=.int "LEAST_CHANGE" 10) rfl)
  i_LEAST_LONG:=He.int_ok X G (c.t.d.fact 60 (f:=.int "LEAST_LONG" 20) rfl)
  i_LEAST_TURN:=He.int_ok X G (c.t.d.fact 61 (f:=.int "LEAST_TURN" 10) rfl)
  i_MOST_CHANGE:=He.int_ok X G (c.t.d.fact 62 (f:=.int "MOST_CHANGE" 300) rfl)
  i_MOST_DAY:=He.int_ok X G (c.t.d.fact 63 (f:=.int "MOST_DAY" 60) rfl)
  i_MOST_FARE:=He.int_ok X G (c.t.d.fact 64 (f:=.int "MOST_FARE" 100000) rfl)
  i_MOST_LEGS:=He.int_ok X G (c.t.d.fact 65 (f:=.int "MOST_LEGS" 60) rfl)
  i_MOST_LONG:=He.int_ok X G (c.t.d.fact 66 (f:=.int "MOST_LONG" 900) rfl)
  i_MOST_NUMBER:=He.int_ok X G (c.t.d.fact 67 (f:=.int "MOST_NUMBER" 9999) rfl)
  i_MOST_PLACES:=He.int_ok X G (c.t.d.fact 68 (f:=.int "MOST_PLACES" 12) rfl)
  i_MOST_TURN:=He.int_ok X G (c.t.d.fact 69 (f:=.int "MOST_TURN" 300) rfl)
  i_PLACE_SIZE:=He.int_ok X G (c.t.d.fact 70 (f:=.int "PLACE_SIZE" 3) rfl)
  i_WEEK:=He.int_ok X G (c.t.d.fact 71 (f:=.int "WEEK" 7) rfl)
  k_Matcher:=He.mkr_ok (c.t.d.fact 72 (f:=.mkr "Matcher") rfl)
  k_Net:=He.mkr_ok (c.t.d.fact 73 (f:=.mkr "Net") rfl)
  m_Matcher_chains:=He.meth_ok (c.t.d.fact 74 (f:=.meth "Matcher" "chains") rfl)
  m_Matcher_cover:=He.meth_ok (c.t.d.fact 75 (f:=.meth "Matcher" "cover") rfl)
  m_Matcher_grow:=He.meth_ok (c.t.d.fact 76 (f:=.meth "Matcher" "grow") rfl)
  m_Net_all_rides:=He.meth_ok (c.t.d.fact 77 (f:=.meth "Net" "all_rides") rfl)
  m_Net_arrive:=He.meth_ok (c.t.d.fact 78 (f:=.meth "Net" "arrive") rfl)
  m_Net_goal:=He.meth_ok (c.t.d.fact 79 (f:=.meth "Net" "goal") rfl)
  m_Net_goes:=He.meth_ok (c.t.d.fact 80 (f:=.meth "Net" "goes") rfl)
  m_Net_leave:=He.meth_ok (c.t.d.fact 81 (f:=.meth "Net" "leave") rfl)
  m_Net_long:=He.meth_ok (c.t.d.fact 82 (f:=.meth "Net" "long") rfl)
  m_Net_start:=He.meth_ok (c.t.d.fact 83 (f:=.meth "Net" "start") rfl)
  n_ValueError:=He.free_ok X G (c.t.d.fact 84 (f:=.free "ValueError") rfl)
  n_all:=He.free_ok X G (c.t.d.fact 85 (f:=.free "all") rfl)
  n_bool:=He.free_ok X G (c.t.d.fact 86 (f:=.free "bool") rfl)
  n_dict:=He.free_ok X G (c.t.d.fact 87 (f:=.free "dict") rfl)
  n_enumerate:=He.free_ok X G (c.t.d.fact 88 (f:=.free "enumerate") rfl)
  n_int:=He.free_ok X G (c.t.d.fact 89 (f:=.free "int") rfl)
  n_isinstance:=He.free_ok X G (c.t.d.fact 90 (f:=.free "isinstance") rfl)
  n_len:=He.free_ok X G (c.t.d.fact 91 (f:=.free "len") rfl)
  n_list:=He.free_ok X G (c.t.d.fact 92 (f:=.free "list") rfl)
  n_min:=He.free_ok X G (c.t.d.fact 93 (f:=.free "min") rfl)
  n_range:=He.free_ok X G (c.t.d.fact 94 (f:=.free "range") rfl)
  n_set:=He.free_ok X G (c.t.d.fact 95 (f:=.free "set") rfl)
  n_sorted:=He.free_ok X G (c.t.d.fact 96 (f:=.free "sorted") rfl)
  n_str:=He.free_ok X G (c.t.d.fact 97 (f:=.free "str") rfl)
  n_tuple:=He.free_ok X G (c.t.d.fact 98 (f:=.free "tuple") rfl)
  n_zip:=He.free_ok X G (c.t.d.fact 99 (f:=.free "zip") rfl)
  s_LETTERS:=He.str_ok X G (c.t.d.fact 100 (f:=.str "LETTERS" "abcdefghijklmnopqrstuvwxyz") rfl)
  x_BadCount:=v0 (c.t.d.fact 101 (f:=.exc "BadCount") rfl)
  x_BadDay:=v0 (c.t.d.fact 102 (f:=.exc "BadDay") rfl)
  e_BadNet:=yY (He.ba (He.ba c.more).2).1
theorem hGx {P:Program} {K:PySem.W.Frag} {w:World} {h base:Heap} {mg:Str→Option Value} (X:K.In h) (G:h.Ns mainGlobals mg) (c:He.SaysX hAll hFn vY hTf hEx w h K) (tb:∀p∈hTf.map (He.cT K),TabB base mg p.1 p.2):Gx P w K mg base where
  fx:=hFx X G c
  kx:=wf X G (He.ba (He.ba c.more).1).1 (fun y hy=>c.t.d.facts (List.mem_append_right hPA (List.mem_append_right _ (List.mem_append_left _ (List.mem_append_left _ (List.mem_map.mpr ⟨y,hy,rfl⟩))))))
    (c.t.d.facts (List.mem_append_right hPA (List.mem_append_right _ (List.mem_append_left _ (List.mem_append_right _ (List.mem_singleton.mpr rfl)))))) (fun C hC=>c.t.d.facts (List.mem_append_right hPA (List.mem_append_right _ (List.mem_append_right _ (List.mem_map.mpr ⟨C,hC,rfl⟩)))))
  tb:=fun p hp=>tb _ (List.mem_map.mpr ⟨p.1,List.mem_map.mpr ⟨p,hp,rfl⟩,rfl⟩)
  tm:=(pC (He.ba (He.ba c.more).1).2).1
  tu:=(pC (He.ba (He.ba c.more).1).2).2
  f_Matcher_cover:=c.t.d.def_ 0 (d:=iA) rfl
  f_Matcher_chains:=c.t.d.def_ 1 (d:=gT) rfl
  f_Net_leave:=c.t.d.def_ 2 (d:=lK) rfl
  f_is_number:=c.t.d.def_ 3 (d:=d_is_number) rfl
  f_Net_goes:=c.t.d.def_ 4 (d:=mM) rfl
  f_Net_all_rides:=c.t.d.def_ 5 (d:=iB) rfl
  f_Matcher_grow:=c.t.d.def_ 6 (d:=iM) rfl
  f_Net_long:=c.t.d.def_ 7 (d:=mN) rfl
  f_Net_arrive:=c.t.d.def_ 8 (d:=jc) rfl
  f_Net_goal:=c.t.d.def_ 9 (d:=mO) rfl
  f_Net_start:=c.t.d.def_ 10 (d:=lL) rfl
  f_can_follow:=c.t.d.def_ 11 (d:=d_can_follow) rfl
  f_Matcher_init__:=c.t.d.def_ 12 (d:=gU) rfl
  f_need_days:=c.t.d.def_ 13 (d:=d_need_days) rfl
  f_need_turn:=c.t.d.def_ 14 (d:=d_need_turn) rfl
  f_are_days:=c.t.d.def_ 15 (d:=d_are_days) rfl
  f_is_leg:=c.t.d.def_ 16 (d:=d_is_leg) rfl
  f_BadNet_init__:=c.t.d.def_ 17 (d:=iD) rfl
  f_is_word:=c.t.d.def_ 18 (d:=d_is_word) rfl
  f_is_place:=c.t.d.def_ 19 (d:=d_is_place) rfl
  f_need_net:=c.t.d.def_ 20 (d:=d_need_net) rfl
  f_Net_init__:=c.t.d.def_ 21 (d:=jd) rfl
  f_fewest:=c.t.d.def_ 22 (d:=d_fewest) rfl
  f_is_end:=c.t.d.def_ 23 (d:=d_is_end) rfl
  f_shown_planes:=c.t.d.def_ 24 (d:=d_shown_planes) rfl
  f_law_kind:=c.t.d.def_ 25 (d:=mP) rfl
  f_law_drawn:=c.t.d.def_ 26 (d:=lM) rfl
  f_law_leave:=c.t.d.def_ 27 (d:=lN) rfl
  f_law_leg:=c.t.d.def_ 28 (d:=oh) rfl
  f_law_can_follow:=c.t.d.def_ 29 (d:=gW) rfl
  f_law_are_chains:=c.t.d.def_ 30 (d:=gX) rfl
  f_law_grown:=c.t.d.def_ 31 (d:=lO) rfl
  f_law_many:=c.t.d.def_ 32 (d:=mQ) rfl
  f_law_rides:=c.t.d.def_ 33 (d:=lP) rfl
  f_law_shuttle:=c.t.d.def_ 34 (d:=jA) rfl
  f_law_net:=c.t.d.def_ 35 (d:=oi) rfl
  f_law_start:=c.t.d.def_ 36 (d:=lQ) rfl
  f_law:=c.t.d.def_ 37 (d:=xZ) rfl
/-- THE ROW,from what the law's mirror gives at each script -/
theorem row_of (hLaw:∀ns:List Int,ns.length≤63→(∀z∈ns,Builtin.Int.intBits z≤1048576)→∃S,tr [.ro (ns.map .int)] []=.ok (.bool true) S):PySem.Challenge.rw_airhouse_k05_the_fewest_planes.Holds:=by
  refine xa ?_
  refine LamX.walk_ofTsE (l:=PySem.Challenge.rw_airhouse_k05_the_fewest_planes) (n:=63) (k:=133) (x:="_law_script") (CX:=fun w=>L2N.CX PySem.Challenge.rw_airhouse_k05_the_fewest_planes.prog w) hMost (by decide) hDf ⟨rfl,by decide,by decide⟩ ?F (fun _ _ _ _ _ z=>yC z)
  intro w mg fa h Y G hmg0
  obtain ⟨K,KX,c⟩:=Y
  have hmg:mg ("law":PySem.Str)=some (.ref fa):=by
    have e:=hNm
    rw[←e]
    exact hmg0
  obtain ⟨fd,F⟩:=c.t.d.def_ 37 (d:=xZ) rfl
  have e:=hmg.symm.trans (He.glo_ok KX G (c.t.d.fact 103 (f:=.glo "law") rfl))
  cases e
  have b:=FunD.bindsA (ps:=["_law_script"]) F fun _ _ _ _ _ _ us hl=>match us,hl with|[_],_=>rfl
  refine ⟨K,KX,fd,hTf.map (He.cT K),spD K mg 1 tr,fun p hp=>?_,fun p hp=>?_,fun p hp=>?_,fun s v=>b s [v] rfl,fun H a ns hl hbits hH hS=>?_,fun base KB GB TB=>(ok_law (hGx KX G c TB) F).ok⟩
  · obtain ⟨q,hq,rfl⟩:=List.mem_map.mp hp
    exact c.empty q hq
  · obtain ⟨q,hq,rfl⟩:=List.mem_map.mp hp
    exact c.out q hq
  · obtain ⟨q,hq,rfl⟩:=List.mem_map.mp hp
    exact PySem.W.codeHd_of_K KX (c.hd q hq)
  · refine yD hS (fun p hp=>?_) (hLaw ns hl hbits)
    obtain ⟨q,hq,rfl⟩:=List.mem_map.mp hp
    exact hH (He.cT K q.1) (List.mem_map.mpr ⟨q.1,List.mem_map.mpr ⟨q,hq,rfl⟩,rfl⟩)
end DL
namespace DL
open PySem PySem.Spec PyProof.Rows L2 LamX
theorem zW {α:Type} {r:Res α} {v:α} (h:Res.wp r (fun a _=>a=v) NoE):∃S,r=.ok v S:=by
  cases r with
  | ok a S=>rw[eh] at h; exact ⟨S,by rw[h]⟩
  | exc e S=>simp at h
  | stuck=>simp at h
end DL
open DL in
theorem PySem.Challenge.cw_airhouse_k05_the_fewest_planes_holds : PySem.Challenge.rw_airhouse_k05_the_fewest_planes.Holds := by
  exact row_of fun ns _ _ => zW (xV ns)
