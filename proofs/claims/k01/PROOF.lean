import PyProof.Rows.All
import Wide.All
import OpenK.AllK
import Wide.FinOn
import HandS.Lambda
import HandS.HeadHook4
import HandS.Words
import KE.KStateDown
import HandS.Head0
import HandS.Head1
import HandS.Head2
import HandS.HeadEnd
import HandS.HeadWalk
import HandS.ForMost
import HandS.ForExc
import HandS.TupAny
import HandS.Flow
import HandS.Deep
import HandS.Zip
import KE.GoesEnum
import HandS.ExcCtx
import HandS.ExcInit
import HandS.CallSlots
import HandS.IsInst
import KE.SortData
import HandS.Small
import HandS.Style
import HandS.DictComp
import KE.KDictPairs
import HandS.SortInts
import HandS.ExcOwn
import HandS.ExcIs
import HandS.ExcField
import OpenK.KDescr
import HandS.Defaults
import KE.SortKeyHeap
import HandS.SortKw
import HandS.Iter
import HandS.Comp
import HandS.RaiseMore
import HandS.SetKeys
import HandS.MakeKwOnly
import KE.DataMinMax
import KE.KLam
import HandS.Exc
import HandS.ClsMeth
import PyProof.MaxThree
import HandS.Flt
import HandS.ListItems
import HandS.DictTup
import HandS.Strs
import HandS.TryOnly
import HandS.More
import PyProof.Rows.StrMeet
import HandS.Finally
import HandS.SuiteRaise
import HandS.HotCalls
import HandS.Hot
import PyProof.CollectIter
import HandS.HeadHook3
import KE.KDictCopyH
import PyProof.NeKinds
import HandS.NoneIn
import HandS.ListEq
import HandS.DeepEq
import KE.GoesZip
import KE.GoesMore
import KE.KDictZip
import HandS.ExcValue
import HandS.FStr
import HandS.Text
import HandS.SetFor
import PySem.Challenge.RW_airhouse_k01_nets_refused
set_option Elab.async false
set_option linter.all false
namespace DL
open PySem PySem.Spec PyProof.Rows
section
theorem zqE {p:Prop} (h:p:=by first|exact .inl rfl|exact .inr rfl):p:=h
theorem zqW {p:Prop} (h:p:=by with_unfolding_all rfl):p:=h
theorem zqH {p:Prop} (h:p:=by exact ⟨rfl,rfl,rfl,by decide +kernel,rfl,by decide +kernel,by decide +kernel⟩):p:=h
theorem zqD {p:Prop} (h:p:=by decide +kernel):p:=h
theorem zqO {p:Prop} (h:p:=by omega):p:=h
theorem zqS {p:Prop} (h:p:=by simp):p:=h
theorem zqC {p:Prop} (h:p:=by decide):p:=h
theorem zqR {p:Prop} (h:p:=by kernel_rfl):p:=h
theorem lT {p:Prop} (h:p:=by exact fun _ _ _ _ _ _ us hl=>match us,hl with|[_],_=>rfl):p:=h
theorem ju {p:Prop} (h:p:=by exact fun _ _ _ _ _ _ us hl=>match us,hl with|[_,_],_=>rfl):p:=h
theorem nO {p:Prop} (h:p:=by exact fun _ _ _ _ _ _ us hl=>match us,hl with|[_,_,_],_=>rfl):p:=h
theorem zqM4 {p:Prop} (h:p:=by exact fun _ _ _ _ _ _ us hl=>match us,hl with|[_,_,_,_],_=>rfl):p:=h
theorem zqM5 {p:Prop} (h:p:=by exact fun _ _ _ _ _ _ us hl=>match us,hl with|[_,_,_,_,_],_=>rfl):p:=h
end
end DL
namespace DL
open PySem PySem.Spec PyProof.Rows L2
def lamDefs:List ((Str × Option Str) × Str):=[(("Net",some "all_rides"),"Net.all_rides.<locals>.<lambda>"),(("law",none),"law.<locals>.<lambda>")]
/-- their tables of code objects -/
def tbs (K:PySem.W.Frag):List (Addr × Str):=lamDefs.map fun p=>(He.tabOf K (He.codeOf K p.1),p.2)
end DL
set_option maxRecDepth 100000
namespace DL
open PySem PySem.Spec PyProof.Rows L2 LamX
def kinds:List Str:=["BadNet","BadFleet","BadClasses","BadDay","BadPlace","BadTime","BadCount","BadChain","NoDuty","NoLeg","NoPlane","NoKind","Taken","CannotFly","NoWay","NoSeat","NoClass","BadName","NoBooking","Left","Unmended","BadDeed","BadText"]
/-- the fields of the errors that have some,the last one first -/
def ck (C:Str):List Str:=
 if C="BadNet"∨C="BadFleet" then ["number","part"] else if C="BadClasses"∨C="BadDeed" then ["number"] else if C="BadText" then ["row"] else []
/-- the classes' facts,looked at -/
def excB (K:PySem.W.Frag) (D:Addr):Bool:=He.eqO (PySem.W.findIn K (.ref D) "__getattribute__") (some (some (.builtin "BaseException.__getattribute__")))&&He.eqO (PySem.W.findIn K (.ref D) "__getattr__") (some none) &&
 decide (PySem.W.subIn K (.ref D) (.type "BaseException")=some true)&&PySem.W.hasDictIn K D&&He.eqO (PySem.W.findIn K (.ref D) "__class__") (some (some (.builtin "object.__class__"))) &&
 He.eqO (PySem.W.specialIn K (.builtin "object.__class__") "__get__") (some (some (.builtin "getset_descriptor.__get__")))&&decide (PySem.W.takesIn K (.builtin "object.__class__")=some true)&&decide (PySem.W.mroIn K D (.type "object")=some true)
def mK (K:PySem.W.Frag) (cs:List Str):Bool:=(cs.all fun C=>kinds.contains C&&(kinds.all fun y=>decide (PySem.W.kitOne K (.ref (He.ga K C)) (.ref (He.ga K y))=some (decide (y=C))))&&decide (PySem.W.kitOne K (.ref (He.ga K C)) (.type "ValueError")=some true)&&excB K (He.ga K C)&&(ck C).all fun n=>He.eqO (PySem.W.findIn K (.ref (He.ga K C)) n) (some none))
def pJ (K:PySem.W.Frag):Bool:=lamDefs.all fun p=>(tbs K).all fun r=>!(decide (r.1=(He.cT K p.1).2))||decide (r.2=p.2)
def clVB (K:PySem.W.Frag) (A:Addr) (m:Str) (v:Value):Bool:=PySem.W.readsIn K A (.type "type")&&He.eqO (PySem.W.specialIn K (.ref A) "__getattribute__") (some (some (.builtin "type.__getattribute__"))) &&
 (match PySem.W.findCls K (.ref A) (.type "type") m with
 | some (.val u)=>decide (u=v)
 | _=>false)
def oexB (K:PySem.W.Frag) (C:Addr):Bool:=(match K.lookup C with
 | some ⟨.type "type",_,.cls cd,sl⟩=>(match cd.mro,sl.toList with
  | .ref C'::bm,[_,_,_,_,some (.builtin n),_]=>C' == C&&n == "ValueError.__new__"&&!cd.hasDel&&cd.hasDict&&PySem.HandSPX.refsVE bm
  | _,_=>false)
 | _=>false)&&He.eqO (PySem.W.findIn K (.ref C) "__setattr__") (some (some (.builtin "object.__setattr__")))&&decide (PySem.W.subIn K (.ref C) (.type "BaseException")=some true)&&decide (PySem.W.typeIn K (.ref C)=some (.type "type"))&&PySem.W.keepIn K (.ref C)
def sW (K:PySem.W.Frag) (C fI A:Addr) (ns:List Str):Bool:=oexB K C&&He.eqO (PySem.W.findIn K (.ref C) "__init__") (some (some (.ref fI)))&&decide (PySem.W.typeIn K (.ref fI)=some (.type "function")) &&
 (ns.all fun n=>He.eqO (PySem.W.findIn K (.ref C) n) (some none))&&clVB K A "__init__" (.builtin "ValueError.__init__")
end DL
namespace DL
open PySem
end DL
namespace DL
open PySem PySem.Spec PyProof.Rows L2 He
def valsF (g:Addr→Option Obj) (n:Addr):List Addr:=match g n with
 | some ⟨_,_,.dict es _,_⟩=>es.toList.flatMap fun e=>refV e.val
 | _=>[]
def nsF (g:Addr→Option Obj) (a:Addr):List Addr:=match g a with
 | some ⟨_,_,.cls cd,_⟩=>[cd.ns]
 | _=>[]
def cdF (g:Addr→Option Obj) (a:Addr):List Addr:=match g a with
 | some ⟨_,_,.func fd,_⟩=>refV fd.code++(refV fd.kwdefaults++refV fd.defaults)
 | _=>[]
def asF (g:Addr→Option Obj):List Addr:=
 (fun gl=>(fun ns=>(fun ms=>mainGlobals::cStatics::(gl++(ns++(ms++(gl++ms).flatMap (cdF g))))) (ns.flatMap (valsF g))) (gl.flatMap (nsF g))) (valsF g mainGlobals)
def obsF (fa:List Fa) (fn:List DefD) (ts:List Tab) (tf:List Defn) (ex:PySem.W.Frag→Bool) (g:Addr→Option Obj):AlX:=(fun K=>(obsT fa fn ts K,ex K&&tabsB g tf K)) (frT g (asF g))
theorem sX {fa:List Fa} {fn:List DefD} {ts:List Tab} {tf:List Defn} {ex:PySem.W.Frag→Bool} {w:World} {h:Heap} (e:obsF fa fn ts tf ex h.get?=valX fn ts w):SaysX fa fn ts tf ex w h (frT h.get? (asF h.get?)):=by
 have e1:obsT fa fn ts (frT h.get? (asF h.get?))=valT fn ts w:=congrArg (fun z:AlX=>z.1) e
 have e2:(ex (frT h.get? (asF h.get?))&&tabsB h.get? tf (frT h.get? (asF h.get?)))=true:=congrArg (fun z:AlX=>z.2) e
 obtain ⟨h1,h2⟩:=ba e2
 have key:∀p∈tf,PySem.W.codeHdIn (frT h.get? (asF h.get?)) (cT (frT h.get? (asF h.get?)) p).1 (cT (frT h.get? (asF h.get?)) p).2=true∧∃o,h.get? (cT (frT h.get? (asF h.get?)) p).2=some o∧emptyTab o=true:=fun p hp=>by
  obtain ⟨h3,h4⟩:=ba (List.all_eq_true.mp h2 p hp)
  refine ⟨h3,?_⟩
  cases q:h.get? (cT (frT h.get? (asF h.get?)) p).2 with
  | none=>
   rw[q] at h4
   cases h4
  | some o=>
   rw[q] at h4
   exact ⟨o,rfl,h4⟩
 exact ⟨e1,h1,fun p hp=>(key p hp).1,fun p hp=>by
  obtain ⟨_,o,q,z⟩:=key p hp
  exact frT_none q z,fun p hp=>by
  obtain ⟨_,o,q,z⟩:=key p hp
  rw[q,emptyTab_eq z]⟩
def hookF (fa:List Fa) (fn:List DefD) (ts:List Tab) (tf:List Defn) (ex:PySem.W.Frag→Bool):PySem.W.Hook where
 α:=AlX
 obs:=fun s=>obsF fa fn ts tf ex s.heap.get?
 val:=fun w=>valX fn ts w
 says:=fun w h=>∃K:PySem.W.Frag,K.In h∧SaysX fa fn ts tf ex w h K
 of:=fun _ _ e=>⟨_,frT_in,sX e⟩
 keeps:=fun _ _ _ ⟨K,hK,c⟩ k=>⟨K,PySem.W.Frag.In.keeps hK k,⟨c.t,c.more,c.hd,c.out,fun p hp=>k _ _ (c.empty p hp)⟩⟩
theorem uw {fa:List Fa} {fn:List DefD} {ts:List Tab} {tf:List Defn} {ex:PySem.W.Frag→Bool} {g:Addr→Option Obj} {s:Shared} (h:∀a,g a=s.heap.get? a):obsF fa fn ts tf ex g=(hookF fa fn ts tf ex).obs s:=by
 have e:g=s.heap.get?:=funext h
 rw[e]<;>rfl
end DL
namespace DL
open PySem PySem.Spec PyProof.Rows L2 LamX
abbrev top (i:Nat):Stmt:=PySem.Challenge.pw_airhouse_k01_nets_refused.main.body.getD i (.Pass ⟨0,0,0,0⟩)
/-- the errors that are raised -/
def kindsHere:List Str:=["BadDay","BadNet","NoLeg","BadPlace","BadCount","BadChain"]
end DL
set_option maxHeartbeats 0
namespace DL
open PySem PySem.Spec PyProof.Rows L2 LamX
def jbI:He.DefD:=⟨("is_number",none),"is_number","is_number",defArgs (top 39),defBody (top 39),defScope (top 39),[],[]⟩
def jbL:He.DefD:=⟨("need_days",none),"need_days","need_days",defArgs (top 46),defBody (top 46),defScope (top 46),[],[]⟩
def jbD:He.DefD:=⟨("are_days",none),"are_days","are_days",defArgs (top 42),defBody (top 42),defScope (top 42),[],[]⟩
def jbH:He.DefD:=⟨("is_leg",none),"is_leg","is_leg",defArgs (top 43),defBody (top 43),defScope (top 43),[],[]⟩
def f8:He.DefD:=⟨("BadNet",some "__init__"),"__init__","BadNet.__init__",defArgs (inClass (top 2) 0),defBody (inClass (top 2) 0),defScope (inClass (top 2) 0),[],[]⟩
def jbK:He.DefD:=⟨("is_word",none),"is_word","is_word",defArgs (top 40),defBody (top 40),defScope (top 40),[],[]⟩
def jbJ:He.DefD:=⟨("is_place",none),"is_place","is_place",defArgs (top 41),defBody (top 41),defScope (top 41),[],[]⟩
def jbM:He.DefD:=⟨("need_net",none),"need_net","need_net",defArgs (top 44),defBody (top 44),defScope (top 44),[],[]⟩
def iV:He.DefD:=⟨("Net",some "__init__"),"__init__","Net.__init__",defArgs (inClass (top 45) 0),defBody (inClass (top 45) 0),defScope (inClass (top 45) 0),[],[]⟩
def jbF:He.DefD:=⟨("dated",none),"dated","dated",defArgs (top 47),defBody (top 47),defScope (top 47),[],[]⟩
def kE:He.DefD:=⟨("Net",some "goes"),"goes","Net.goes",defArgs (inClass (top 45) 1),defBody (inClass (top 45) 1),defScope (inClass (top 45) 1),[],[]⟩
def f9:He.DefD:=⟨("Net",some "need_ride"),"need_ride","Net.need_ride",defArgs (inClass (top 45) 2),defBody (inClass (top 45) 2),defScope (inClass (top 45) 2),[],[]⟩
def jbR:He.DefD:=⟨("times",none),"times","times",defArgs (top 48),defBody (top 48),defScope (top 48),[],[]⟩
def jbN:He.DefD:=⟨("need_place",none),"need_place","need_place",defArgs (top 73),defBody (top 73),defScope (top 73),[],[]⟩
def jbS:He.DefD:=⟨("ways",none),"ways","ways",defArgs (top 75),defBody (top 75),defScope (top 75),[],[("most",.int 4)]⟩
def jbP:He.DefD:=⟨("need_turn",none),"need_turn","need_turn",defArgs (top 62),defBody (top 62),defScope (top 62),[],[]⟩
def jbG:He.DefD:=⟨("fewest",none),"fewest","fewest",defArgs (top 65),defBody (top 65),defScope (top 65),[],[]⟩
def jbQ:He.DefD:=⟨("shown_planes",none),"shown_planes","shown_planes",defArgs (top 67),defBody (top 67),defScope (top 67),[],[]⟩
def jbO:He.DefD:=⟨("need_rides",none),"need_rides","need_rides",defArgs (top 56),defBody (top 56),defScope (top 56),[],[]⟩
def jbE:He.DefD:=⟨("cut",none),"cut","cut",defArgs (top 58),defBody (top 58),defScope (top 58),[],[]⟩
def kF:He.DefD:=⟨("_law_kind",none),"_law_kind","_law_kind",defArgs (top 79),defBody (top 79),defScope (top 79),[],[]⟩
def nP:He.DefD:=⟨("_law_is",none),"_law_is","_law_is",defArgs (top 85),defBody (top 85),defScope (top 85),[],[]⟩
def iW:He.DefD:=⟨("_law_is_leg",none),"_law_is_leg","_law_is_leg",defArgs (top 87),defBody (top 87),defScope (top 87),[],[]⟩
def gJ:He.DefD:=⟨("_law_is_place",none),"_law_is_place","_law_is_place",defArgs (top 86),defBody (top 86),defScope (top 86),[],[]⟩
def li:He.DefD:=⟨("_law_bad",none),"_law_bad","_law_bad",defArgs (top 88),defBody (top 88),defScope (top 88),[],[]⟩
def jd:He.DefD:=⟨("_law_drawn",none),"_law_drawn","_law_drawn",defArgs (top 78),defBody (top 78),defScope (top 78),[],[]⟩
def je:He.DefD:=⟨("_law_other",none),"_law_other","_law_other",defArgs (top 89),defBody (top 89),defScope (top 89),[],[]⟩
def iE:He.DefD:=⟨("_law_shuttle",none),"_law_shuttle","_law_shuttle",defArgs (top 80),defBody (top 80),defScope (top 80),[],[]⟩
def lj:He.DefD:=⟨("_law_net",none),"_law_net","_law_net",defArgs (top 81),defBody (top 81),defScope (top 81),[],[]⟩
def jf:He.DefD:=⟨("_law_great",none),"_law_great","_law_great",defArgs (top 90),defBody (top 90),defScope (top 90),[],[]⟩
def jg:He.DefD:=⟨("_law_start",none),"_law_start","_law_start",defArgs (top 77),defBody (top 77),defScope (top 77),[],[]⟩
def se:He.DefD:=⟨("law",none),"law","law",defArgs (top 91),defBody (top 91),defScope (top 91),[],[]⟩
def hFn0:List He.DefD:=[jbI,jbL,jbD,jbH,f8,jbK,jbJ,jbM,iV,jbF,kE,f9,jbR,jbN,jbS,jbP,jbG,jbQ,jbO,jbE,kF,nP,iW,gJ,li,jd,je,iE,lj,jf]
def hFn1:List He.DefD:=[jg,se]
def hNA:List He.DefD:=hFn0
def hNB:List He.DefD:=[]++hFn1
def hFn:List He.DefD:=hNA++hNB
def hKinds:List He.Fa:=kinds.map .glo++[.glo "AirError"]++kindsHere.map fun C=>.exm C "AirError" true
def hFa0:List He.Fa:=[.noat "Net" "changes",.noat "Net" "legs",.cls "Net",.glo "AirError",.glo "BadChain",.glo "BadClasses",.glo "BadCount",.glo "BadDay",.glo "BadDeed",.glo "BadFleet",.glo "BadName",.glo "BadNet",.glo "BadPlace",.glo "BadText",.glo "BadTime",.glo "CannotFly",.glo "Left",.glo "Net",.glo "NoBooking",.glo "NoClass",.glo "NoDuty",.glo "NoKind",.glo "NoLeg",.glo "NoPlane",.glo "NoSeat",.glo "NoWay",.glo "Taken",.glo "Unmended",.glo "_law_bad",.glo "_law_drawn"]
def hFa1:List He.Fa:=[.glo "_law_great",.glo "_law_is",.glo "_law_is_leg",.glo "_law_is_place",.glo "_law_kind",.glo "_law_net",.glo "_law_other",.glo "_law_shuttle",.glo "_law_start",.glo "are_days",.glo "cut",.glo "dated",.glo "fewest",.glo "is_leg",.glo "is_number",.glo "is_place",.glo "is_word",.glo "need_days",.glo "need_net",.glo "need_place",.glo "need_rides",.glo "need_turn",.glo "shown_planes",.glo "times",.glo "ways",.int "DAY" 1440,.int "LEAST_CHANGE" 10,.int "LEAST_LONG" 20,.int "LEAST_TURN" 10,.int "MOST_CHANGE" 300]
def hFa2:List He.Fa:=[.int "MOST_DAY" 60,.int "MOST_FARE" 100000,.int "MOST_LEGS" 60,.int "MOST_LONG" 900,.int "MOST_NUMBER" 9999,.int "MOST_PLACES" 12,.int "MOST_TURN" 300,.int "PLACE_SIZE" 3,.int "WEEK" 7,.mkr "Net",.meth "Net" "goes",.meth "Net" "need_ride",.free "ValueError",.free "all",.free "bool",.free "dict",.free "enumerate",.free "int",.free "isinstance",.free "len",.free "list",.free "range",.free "set",.free "sorted",.free "str",.free "tuple",.free "zip",.str "LETTERS" "abcdefghijklmnopqrstuvwxyz",.exc "BadChain",.exc "BadCount"]
def hFa3:List He.Fa:=[.exc "BadDay",.exc "BadPlace",.exc "NoLeg",.glo "law"]
def hPA:List He.Fa:=hFa0++hFa1
def hPB:List He.Fa:=hFa2++hFa3++hKinds
def hAll:List He.Fa:=hPA++hPB
def ux:List Str:=["__name__","AirError","BadNet","BadFleet","BadClasses","BadDay","BadPlace","BadTime","BadCount","BadChain","NoDuty","NoLeg","NoPlane","NoKind","Taken","CannotFly","NoWay","NoSeat","NoClass","BadName","NoBooking","Left","Unmended","BadDeed","BadText","DAY","WEEK","MOST_DAY","MOST_PLACES","MOST_LEGS"]
def uz:List Str:=["MOST_NUMBER","MOST_FARE","LEAST_CHANGE","MOST_CHANGE","LEAST_LONG","MOST_LONG","LETTERS","PLACE_SIZE","is_number","is_word","is_place","are_days","is_leg","need_net","Net","need_days","dated","times","AHEAD","BEHIND","GAP","MOST_DUTY","MOST_FLOWN","MOST_DUTY_LEGS","need_rides","duty_word","cut","LEAST_TURN","MOST_TURN","need_turn"]
def u3:List Str:=["can_follow","Matcher","fewest","is_end","shown_planes","MOST_WAY","SPAN","MOST_TIME","Seeker","need_place","need_time","ways","_law_start","_law_drawn","_law_kind","_law_shuttle","_law_net","_law_leave","_law_leg","_law_rides","_law_is","_law_is_place","_law_is_leg","_law_bad","_law_other","_law_great"]
def pK:List Str:=ux++uz++u3
def hTf:List He.Defn:=lamDefs.map (·.1)
def qd:List He.Tab:=[]
def hOwn (K:PySem.W.Frag):Bool:=sW K (He.ga K "BadNet") (He.ma K (He.ga K "BadNet") "__init__") (He.ga K "AirError") ["part","number"]&&true
def hEx (K:PySem.W.Frag):Bool:=(mK K kindsHere&&pJ K)&&hOwn K
theorem u4 (h:(PySem.W.OpenLaw.row PySem.Challenge.rw_airhouse_k01_nets_refused).wellSaid=true→(PySem.W.OpenLaw.row PySem.Challenge.rw_airhouse_k01_nets_refused).Holds):PySem.Challenge.rw_airhouse_k01_nets_refused.Holds:=by
 o_law
 exact h (by assumption)
abbrev hR:PySem.W.OpenRow:=PySem.W.OpenLaw.row PySem.Challenge.rw_airhouse_k01_nets_refused
abbrev hHk:PySem.W.Hook:=hookF hAll hFn qd hTf hEx
def hOb (s:PySem.W.SharedT):He.AlX:=obsF hAll hFn qd hTf hEx (HandSHeadRun.getT s)
theorem hOb_eq (s:PySem.W.SharedT):hOb s=hHk.obs s.abs:=uw (HandSHeadRun.getT_eq s)
theorem hRun (w:World):HandSHeadRun.RunEq hR (PySem.W.view hR.prog [91]) hHk hOb 20000 pK w:=by
 intro os
 kernel_rfl
theorem hMost:PySem.Challenge.rw_airhouse_k01_nets_refused.most=some 63:=rfl
theorem hDf:(HandSHeadRun.topDef (PySem.W.OpenLaw.row PySem.Challenge.rw_airhouse_k01_nets_refused).prog 91).params.defaults=[]:=by kernel_rfl
theorem hNm:(HandSHeadRun.topDef (PySem.W.OpenLaw.row PySem.Challenge.rw_airhouse_k01_nets_refused).prog 91).name=("law":PySem.Str):=by kernel_rfl
theorem sf (hc:PySem.W.WalkO (PySem.W.view (PySem.W.OpenLaw.row PySem.Challenge.rw_airhouse_k01_nets_refused).prog [91]) pK (PySem.W.XL (PySem.W.view (PySem.W.OpenLaw.row PySem.Challenge.rw_airhouse_k01_nets_refused).prog [91]) []) hHk.says (PySem.W.OpenLaw.row PySem.Challenge.rw_airhouse_k01_nets_refused).toRowW (HandSHeadRun.topDef (PySem.W.OpenLaw.row PySem.Challenge.rw_airhouse_k01_nets_refused).prog 91) [] fun f vs=>PySem.call f vs):PySem.Challenge.rw_airhouse_k01_nets_refused.Holds:=by
 refine u4 fun said=>?_
 w_on
 refine HandSHeadRun.head_any (r:=PySem.W.OpenLaw.row PySem.Challenge.rw_airhouse_k01_nets_refused) (q:=PySem.W.view (PySem.W.OpenLaw.row PySem.Challenge.rw_airhouse_k01_nets_refused).prog [91]) (H:=hHk) (ob:=hOb) (M:=20000) (loose:=pK) (d:=HandSHeadRun.topDef (PySem.W.OpenLaw.row PySem.Challenge.rw_airhouse_k01_nets_refused).prog 91) (kwd:=[]) hOb_eq
  zqR (fun s=>by kernel_rfl) hRun zqR zqR zqR (by rfl) (by first|assumption|decide +kernel) zqD ⟨rfl,rfl,rfl,rfl,rfl,zqD⟩ ?hw hc
 w_witness2
end DL
namespace DL
open PySem PySem.Spec PyProof.Rows L2
inductive D where
 | none|bool (b:Bool)|int (i:Int)|str (x:Str)|ty (n:String)
 | tup (xs:List D)|lst (xs:List D)|ro (xs:List D)|loc (l:Nat)|glo (x:Str)|adr (a:Addr)|tpn (xs:List D)
 | clo (k:Nat) (b:Bool) (q:Str) (F:Value→Addr→Value→Value→Obj)
 | exn (a dd:Addr) (ns:List Str) (xs:List D)
 deriving Inhabited
inductive O where
 | lst (xs:List D)|dct (t:Bool) (kvs:List (D × D))|ins (C:Str) (fs:List (Str × D))|fdc (t:Bool) (kvs:List (D × D))
 deriving Inhabited
abbrev Sto:=List O
abbrev En:=List (Option D)
structure XV where
 cls:Str
 fs:List (Str × D)
def dR:Key→D
 | .inl i=>.int i
 | .inr x=>.str x
def fV (ks:List Key):D:=.tup (ks.map dR)
/-- where what changes stands: what is named by its place,and what is being made -/
structure Mu where
 l:List Addr
 h:List Addr
instance:Membership Addr Mu:=⟨fun μ a=>a∈μ.l∨a∈μ.h⟩
def Mu.push (μ:Mu) (p:Addr):Mu:=⟨μ.l++[p],μ.h⟩
def Mu.hide (μ:Mu) (p:Addr):Mu:=⟨μ.l,p::μ.h⟩
theorem Mu.mem {μ:Mu} {a:Addr}:a∈μ↔a∈μ.l∨a∈μ.h:=Iff.rfl
/-- the function object o stands at f -/
def mL (f:Addr) (o:Obj):HO:=.ext fun h=>h.get? f=some o
/-- the defaults of a lambda: none,or the one number 0 -/
def DfO (b:Bool) (H:Hp) (μ:Mu) (dv:Value):Prop:=b=true→∃T,dv=.ref T∧H T=some (.tup [.int 0])∧T∉μ
section
variable (K:PySem.W.Frag) (mg:Str→Option Value)
def SeqL (μ:Mu) (H:Hp) (a:Addr) (vs:List V):Prop:=(Rd H a (.lst vs)∧a∉μ)∨SqL K (fun _=>none) a vs
mutual
def Rep (μ:Mu) (H:Hp):D→V→Prop
 | .none,v=>v=.non
 | .bool b,v=>v=.bl b
 | .int i,v=>v=.int i
 | .str x,v=>v=.str x
 | .ty n,v=>v=.ty n
 | .tup ds,v=>∃a vs,v=.ref a∧H a=some (.tup vs)∧a∉μ∧RepAll μ H ds vs
 | .lst ds,v=>∃a vs,v=.ref a∧H a=some (.lst vs)∧a∉μ∧RepAll μ H ds vs
 | .ro ds,v=>∃a vs,v=.ref a∧SeqL K μ H a vs∧RepAll μ H ds vs
 | .loc l,v=>∃a,v=.ref a∧μ.l[l]?=some a
 | .glo x,v=>∃a,v=.ref a∧mg x=some (.ref a)
 | .adr a,v=>v=.ref a
 | .tpn ds,v=>∃a vs o,v=.ref a∧(H a=some (.frz o (.tup vs))∧o.dict=none)∧a∉μ∧RepAll μ H ds vs
 | .exn a dd ns ds,v=>∃vs,v=.ref a∧H dd=some (.xd (ns.zip vs))∧dd∉μ∧RepAll μ H ds vs
 | .clo _ b q F,v=>∃f c' pm ctv dv,v=.ref f∧(H f=some (mL f (F pm c' ctv dv))∧f∉μ)∧(H c'=some (LamX.CodeO c' q)∧c'∉μ)∧DfO b H μ dv
def RepAll (μ:Mu) (H:Hp):List D→List V→Prop
 | [],vs=>vs=[]
 | d::ds,vs=>∃v r,vs=v::r∧Rep μ H d v∧RepAll μ H ds r
end
def RepO (μ:Mu) (H:Hp):O→Addr→Prop
 | .lst ds,a=>∃vs,H a=some (.lst vs)∧RepAll K mg μ H ds vs
 | .dct false kvs,a=>∃vs,∃ks:List Key,(H a=some (.dK (ks.zip vs))∧kvs.map (·.1)=ks.map dR)∧RepAll K mg μ H (kvs.map (·.2)) vs
 | .dct true kvs,a=>∃vs,∃ks:List (List Key),(H a=some (.dT (ks.zip vs))∧kvs.map (·.1)=ks.map fV)∧RepAll K mg μ H (kvs.map (·.2)) vs
 | .ins C fs,a=>∃Ca dx vs,mg C=some (.ref Ca)∧H a=some (.ins Ca dx ((fs.map (·.1)).zip vs))∧RepAll K mg μ H (fs.map (·.2)) vs
 | .fdc false kvs,a=>∃vs,∃ks:List Key,((∃od,H a=some (.frz od (.dK (ks.zip vs))))∧kvs.map (·.1)=ks.map dR)∧RepAll K mg μ H (kvs.map (·.2)) vs
 | .fdc true kvs,a=>∃vs,∃ks:List (List Key),((∃od,H a=some (.frz od (.dT (ks.zip vs))))∧kvs.map (·.1)=ks.map fV)∧RepAll K mg μ H (kvs.map (·.2)) vs
/-- no table of code objects -/
def NTb (o:HO):Prop:=∀ps,o≠.tbl ps
/-- what may be hidden -/
def Hdn (o:HO):Prop:=(∃xs,o=.lst xs)∨(∃kvs,o=.dK kvs)∨∃kvs,o=.dT kvs
theorem Hdn.ntb {o:HO} (h:Hdn o) (ps:Array Value):o≠.tbl ps:=by
 rcases h with ⟨_,rfl⟩|⟨_,rfl⟩|⟨_,rfl⟩<;>exact nofun
theorem Hdn.nc {o:HO} (h:Hdn o) (c:Addr) (q:Str):o≠LamX.CodeO c q:=by
 unfold LamX.CodeO
 rcases h with ⟨_,rfl⟩|⟨_,rfl⟩|⟨_,rfl⟩<;>exact nofun
structure RelS (μ:Mu) (H:Hp) (S:Sto):Prop where
 len:S.length=μ.l.length
 nd:μ.l.Nodup
 dis:∀a∈μ.l,a∉μ.h
 hid:∀a∈μ.h,∃u,H a=some u∧Hdn u
 at_:∀(l:Nat) (o:O),S[l]?=some o→∃a,μ.l[l]?=some a∧RepO K mg μ H o a
 tab:LamX.Tabs (tbs K) H
structure RelE (μ:Mu) (H:Hp) (env:En) (σ:L2.St):Prop where
 len:env.length=σ.length
 at_:∀(i:Nat) (d:D),env[i]?=some (some d)→∃v,σ[i]?=some (some v)∧Rep K mg μ H d v
structure Rl (μ:Mu) (H:Hp) (env:En) (σ:L2.St) (S:Sto):Prop where
 env:RelE K mg μ H env σ
 sto:RelS K mg μ H S
def RepX (μ:Mu) (H:Hp) (e:XV) (cls:Value) (dd:Option Addr):Prop:=
 ∃C,mg e.cls=some (.ref C)∧cls=.ref C∧((e.fs=[]∧dd=none)∨e.fs≠[]∧∃d vs,dd=some d∧H d=some (.xd ((e.fs.map (·.1)).zip vs))∧RepAll K mg μ H (e.fs.map (·.2)) vs)
end
/-- what stays as code runs -/
structure StpW (μ:Mu) (H:Hp) (μ':Mu) (H':Hp):Prop where
 pre:∃t,μ'.l=μ.l++t
 new:∀a∈μ',a∈μ∨∀o,H a=some o→¬NTb o
 keep':∀a o,H a=some o→a∉μ→NTb o→H' a=some o
/-- .. what is locked among it -/
structure Stp (μ:Mu) (H:Hp) (μ':Mu) (H':Hp):Prop extends StpW μ H μ' H' where
 kf:∀a od u,H a=some (.frz od u)→H' a=some (.frz od u)
structure Step (μ:Mu) (H:Hp) (μ':Mu) (H':Hp):Prop extends Stp μ H μ' H' where
 hid:μ'.h=μ.h
 hk':∀a u,a∈μ.h→H a=some u→NTb u→H' a=some u
instance {μ μ':Mu} {H H':Hp}:Coe (Stp μ H μ' H') (StpW μ H μ' H'):=⟨Stp.toStpW⟩
theorem StpW.keep {μ μ':Mu} {H H':Hp} (s:StpW μ H μ' H') (a:Addr) (o:HO) (h:H a=some o) (n:a∉μ) (t:NTb o:=by exact fun _ z=>nomatch z):H' a=some o:=s.keep' a o h n t
theorem Step.hk {μ μ':Mu} {H H':Hp} (s:Step μ H μ' H') (a:Addr) (u:HO) (h:a∈μ.h) (e:H a=some u) (t:NTb u:=by exact fun _ z=>nomatch z):H' a=some u:=s.hk' a u h e t
def Sm (H H':Hp):Prop:=∀b o,H b=some o→H' b=some o
theorem Sm.rfl {H:Hp}:Sm H H:=fun _ _ h=>h
theorem Sm.trans {H H1 H2:Hp} (a:Sm H H1) (b:Sm H1 H2):Sm H H2:=fun c o h=>b c o (a c o h)
theorem Sm.upd {H:Hp} {p:Addr} {o:HO} (h:H p=none):Sm H (upd H p o):=fun b u e=>by
 rw[upd_ne (ne_of_none e h)]; exact e
section
variable {μ μ' μ2:Mu} {H H' H2:Hp}
theorem Stp.refl:Stp μ H μ H:=⟨⟨⟨[],zqS⟩,fun _ h=>.inl h,fun _ _ h _ _=>h⟩,fun _ _ _ h=>h⟩
theorem Step.refl:Step μ H μ H:=⟨.refl,rfl,fun _ _ _ h _=>h⟩
theorem Step.of_sm (s:Sm H H'):Step μ H μ H':=⟨⟨⟨⟨[],zqS⟩,fun _ h=>.inl h,fun a o h _ _=>s a o h⟩,fun a _ _ h=>s a _ h⟩,rfl,fun a u _ h _=>s a u h⟩
theorem StpW.notin (s:StpW μ H μ' H') {a:Addr} {o:HO} (h:H a=some o) (n:a∉μ) (t:NTb o:=by exact fun _ z=>nomatch z):a∉μ':=fun z=>by
 rcases s.new a z with e|e
 ·exact n e
 ·exact e o h t
theorem Step.notin (s:Step μ H μ' H') {a:Addr} {o:HO} (h:H a=some o) (n:a∉μ) (t:NTb o:=by exact fun _ z=>nomatch z):a∉μ':=s.toStp.notin h n t
theorem Stp.trans (s:Stp μ H μ' H') (t:Stp μ' H' μ2 H2):Stp μ H μ2 H2:=by
 obtain ⟨x,hx⟩:=s.pre
 obtain ⟨y,hy⟩:=t.pre
 refine ⟨⟨⟨x++y,by rw[hy,hx,List.append_assoc]⟩,fun a ha=>?_,fun a o h n nt=>t.keep a o (s.keep a o h n nt) (s.notin h n nt) nt⟩,fun a od u h=>t.kf a od u (s.kf a od u h)⟩
 rcases t.new a ha with e|e
 ·exact s.new a e
 ·by_cases h:a∈μ
  ·exact .inl h
  ·exact .inr fun o q nt=>e o (s.keep a o q h nt) nt
theorem Step.trans (s:Step μ H μ' H') (t:Step μ' H' μ2 H2):Step μ H μ2 H2:=⟨s.toStp.trans t.toStp,t.hid.trans s.hid,fun a u ha h nt=>t.hk a u (by rw[s.hid]; exact ha) (s.hk a u ha h nt) nt⟩
theorem StpW.get (s:StpW μ H μ' H') {l:Nat} {a:Addr} (h:μ.l[l]?=some a):μ'.l[l]?=some a:=by
 obtain ⟨t,e⟩:=s.pre
 have hl:l<μ.l.length:=(List.getElem?_eq_some_iff.mp h).1
 rw[e,List.getElem?_append_left hl]; exact h
theorem Step.get (s:Step μ H μ' H') {l:Nat} {a:Addr} (h:μ.l[l]?=some a):μ'.l[l]?=some a:=s.toStp.get h
/-- a new one at p -/
theorem Step.new_loc {p:Addr} {o:HO} (h:H p=none):Step μ H (μ.push p) (upd H p o):=
 ⟨⟨⟨⟨[p],rfl⟩,fun a ha=>by
  rcases ha with ha|ha
  ·rcases List.mem_append.mp ha with e|e
   ·exact .inl (.inl e)
   ·have:a=p:=by simpa using e
    subst this; exact .inr fun o q=>by rw[h] at q; cases q
  ·exact .inl (.inr ha),fun a u e _ _=>(by rw[upd_ne (ne_of_none e h)]; exact e)⟩,fun a _ _ e=>(by rw[upd_ne (ne_of_none e h)]; exact e)⟩,rfl,fun a u _ e _=>by rw[upd_ne (ne_of_none e h)]; exact e⟩
theorem Stp.new_hid {p:Addr} {o:HO} (h:H p=none):Stp μ H (μ.hide p) (upd H p o):=
 ⟨⟨⟨[],by simp[Mu.hide]⟩,fun a ha=>by
  rcases ha with ha|ha
  ·exact .inl (.inl ha)
  ·rcases List.mem_cons.mp ha with e|e
   ·subst e; exact .inr fun o q=>by rw[h] at q; cases q
   ·exact .inl (.inr e),fun a u e _ _=>(by rw[upd_ne (ne_of_none e h)]; exact e)⟩,fun a _ _ e=>(by rw[upd_ne (ne_of_none e h)]; exact e)⟩
/-- not locked -/
def NF (H:Hp) (p:Addr):Prop:=∀od u,H p≠some (.frz od u)
theorem NF.of {H:Hp} {p:Addr} {w:HO} (h:H p=some w) (hw:∀od u,w≠.frz od u:=by exact fun _ _ z=>nomatch z):NF H p:=fun od u z=>by
 rw[h] at z; exact hw od u (Option.some.inj z)
theorem NF.ne {H:Hp} {p b:Addr} {od:Obj} {u:HO} (n:NF H p) (e:H b=some (.frz od u)):b≠p:=fun z=>n od u (z▸e)
theorem Hdn.nf {H:Hp} {p:Addr} {u:HO} (e:H p=some u) (h:Hdn u):NF H p:=.of e (by rcases h with ⟨_,rfl⟩|⟨_,rfl⟩|⟨_,rfl⟩<;>exact fun _ _ z=>nomatch z)
theorem Stp.write_hid {p:Addr} {o:HO} (h:p∈μ.h) (nf:NF H p):Stp μ H μ (upd H p o):=
 ⟨⟨⟨[],zqS⟩,fun _ h=>.inl h,fun b u e n _=>(by
  have:b≠p:=fun z=>n (z▸.inr h)
  rw[upd_ne this]; exact e)⟩,fun b _ _ e=>(by rw[upd_ne (nf.ne e)]; exact e)⟩
theorem Step.write' {l:Nat} {a:Addr} {o:HO} (h:μ.l[l]?=some a) (hd:a∉μ.h) (nf:NF H a):Step μ H μ (upd H a o):=
 ⟨⟨⟨⟨[],zqS⟩,fun _ h=>.inl h,fun b u e n _=>(by
  have:b≠a:=fun z=>n (z▸.inl (List.mem_of_getElem? h))
  rw[upd_ne this]; exact e)⟩,fun b _ _ e=>(by rw[upd_ne (nf.ne e)]; exact e)⟩,rfl,fun b u hb e _=>by
  have:b≠a:=fun z=>hd (z▸hb)
  rw[upd_ne this]; exact e⟩
variable {K:PySem.W.Frag} {mg:Str→Option Value}
theorem SeqL.sq {a:Addr} {vs:List V} (h:SeqL K μ H a vs):SqL K H a vs:=by
 rcases h with h|h|h
 ·exact .inl h.1
 ·rcases h with z|⟨o,z⟩<;>cases z
 ·exact .inr h
theorem nQ (s:StpW μ H μ' H') {a:Addr} {u:HO} (h:Rd H a u) (n:a∉μ) (t:NTb u:=by exact fun _ z=>nomatch z):Rd H' a u∧a∉μ':=by
 rcases h with h|⟨o,h⟩
 ·exact ⟨.inl (s.keep _ _ h n t),s.notin h n t⟩
 ·exact ⟨.inr ⟨o,s.keep _ _ h n⟩,s.notin h n⟩
theorem SeqL.stpW (s:StpW μ H μ' H') {a:Addr} {vs:List V} (h:SeqL K μ H a vs):SeqL K μ' H' a vs:=by
 rcases h with h|h
 ·exact .inl (nQ s h.1 h.2)
 ·exact .inr h
mutual
theorem Rep.stpW (s:StpW μ H μ' H'):∀(d:D) (v:V),Rep K mg μ H d v→Rep K mg μ' H' d v
 | .none,_,h=>by unfold Rep at *; exact h
 | .bool _,_,h=>by unfold Rep at *; exact h
 | .int _,_,h=>by unfold Rep at *; exact h
 | .str _,_,h=>by unfold Rep at *; exact h
 | .ty _,_,h=>by unfold Rep at *; exact h
 | .tup ds,_,h=>by
  unfold Rep at *
  obtain ⟨a,vs,e,h1,n,h2⟩:=h
  exact ⟨a,vs,e,s.keep _ _ h1 n,s.notin h1 n,RepAll.stpW s ds vs h2⟩
 | .lst ds,_,h=>by
  unfold Rep at *
  obtain ⟨a,vs,e,h1,n,h2⟩:=h
  exact ⟨a,vs,e,s.keep _ _ h1 n,s.notin h1 n,RepAll.stpW s ds vs h2⟩
 | .ro ds,_,h=>by
  unfold Rep at *
  obtain ⟨a,vs,e,h1,h2⟩:=h
  exact ⟨a,vs,e,h1.stpW s,RepAll.stpW s ds vs h2⟩
 | .loc l,_,h=>by
  unfold Rep at *
  obtain ⟨a,e,h1⟩:=h
  exact ⟨a,e,s.get h1⟩
 | .glo _,_,h=>by unfold Rep at *; exact h
 | .adr _,_,h=>by unfold Rep at *; exact h
 | .exn a dd ns ds,_,h=>by
  unfold Rep at *
  obtain ⟨vs,e,h1,n,h2⟩:=h
  exact ⟨vs,e,s.keep _ _ h1 n,s.notin h1 n,RepAll.stpW s ds vs h2⟩
 | .clo _ b q F,_,h=>by
  unfold Rep at *
  obtain ⟨f,c',pm,ctv,dv,e,⟨h1,n1⟩,⟨h2,n2⟩,h3⟩:=h
  have t1:NTb (mL f (F pm c' ctv dv)):=fun _ z=>by unfold mL at z; cases z
  have t2:NTb (LamX.CodeO c' q):=fun _ z=>by unfold LamX.CodeO at z; cases z
  refine ⟨f,c',pm,ctv,dv,e,⟨s.keep _ _ h1 n1 t1,s.notin h1 n1 t1⟩,⟨s.keep _ _ h2 n2 t2,s.notin h2 n2 t2⟩,fun hb=>?_⟩
  obtain ⟨T,h3,h4,h5⟩:=h3 hb
  exact ⟨T,h3,s.keep _ _ h4 h5,s.notin h4 h5⟩
 | .tpn ds,_,h=>by
  unfold Rep at *
  obtain ⟨a,vs,o,e,⟨h1,hd⟩,n,h2⟩:=h
  exact ⟨a,vs,o,e,⟨s.keep _ _ h1 n,hd⟩,s.notin h1 n,RepAll.stpW s ds vs h2⟩
theorem RepAll.stpW (s:StpW μ H μ' H'):∀(ds:List D) (vs:List V),RepAll K mg μ H ds vs→RepAll K mg μ' H' ds vs
 | [],_,h=>by unfold RepAll at *; exact h
 | d::ds,_,h=>by
  unfold RepAll at *
  obtain ⟨v,r,e,h1,h2⟩:=h
  exact ⟨v,r,e,Rep.stpW s d v h1,RepAll.stpW s ds r h2⟩
end
theorem c6 (s:Stp μ H μ' H') {a:Addr} {u:HO} (h:Rd H a u) (n:a∉μ) (t:NTb u:=by exact fun _ z=>nomatch z):Rd H' a u∧a∉μ':=nQ s.toStpW h n t
theorem SeqL.stp (s:Stp μ H μ' H') {a:Addr} {vs:List V} (h:SeqL K μ H a vs):SeqL K μ' H' a vs:=h.stpW s.toStpW
theorem Rep.stp (s:Stp μ H μ' H') (d:D) (v:V) (h:Rep K mg μ H d v):Rep K mg μ' H' d v:=Rep.stpW s.toStpW d v h
theorem RepAll.stp (s:Stp μ H μ' H') (ds:List D) (vs:List V) (h:RepAll K mg μ H ds vs):RepAll K mg μ' H' ds vs:=RepAll.stpW s.toStpW ds vs h
theorem Rep.step (s:Step μ H μ' H') (d:D) (v:V) (h:Rep K mg μ H d v):Rep K mg μ' H' d v:=Rep.stp s.toStp d v h
theorem RepAll.step (s:Step μ H μ' H') (d:List D) (v:List V) (h:RepAll K mg μ H d v):RepAll K mg μ' H' d v:=RepAll.stp s.toStp d v h
theorem SeqL.step (s:Step μ H μ' H') {a:Addr} {vs:List V} (h:SeqL K μ H a vs):SeqL K μ' H' a vs:=h.stp s.toStp
theorem RepAll.length:∀ {ds:List D} {vs:List V},RepAll K mg μ H ds vs→ds.length=vs.length
 | [],_,h=>by unfold RepAll at h; subst h; rfl
 | d::ds,_,h=>by
  unfold RepAll at h
  obtain ⟨v,r,rfl,_,h2⟩:=h
  simp[RepAll.length h2]
theorem RepAll.get:∀ {ds:List D} {vs:List V} {i:Nat} {d:D},RepAll K mg μ H ds vs→ds[i]?=some d→∃v,vs[i]?=some v∧Rep K mg μ H d v
 | [],_,_,_,_,e=>by simp at e
 | d::ds,_,0,_,h,e=>by
  unfold RepAll at h
  obtain ⟨v,r,rfl,h1,_⟩:=h
  simp at e; subst e
  exact ⟨v,rfl,h1⟩
 | d::ds,_,i+1,_,h,e=>by
  unfold RepAll at h
  obtain ⟨v,r,rfl,_,h2⟩:=h
  obtain ⟨u,e1,e2⟩:=RepAll.get (i:=i) h2 (by simpa using e)
  exact ⟨u,by simpa using e1,e2⟩
theorem RepAll.nil:RepAll K mg μ H [] []:=by unfold RepAll; rfl
theorem RepAll.cons {d:D} {ds:List D} {v:V} {vs:List V} (h:Rep K mg μ H d v) (t:RepAll K mg μ H ds vs):RepAll K mg μ H (d::ds) (v::vs):=by
 unfold RepAll; exact ⟨v,vs,rfl,h,t⟩
theorem RepAll.append:∀ {ds es:List D} {vs us:List V},RepAll K mg μ H ds vs→RepAll K mg μ H es us→RepAll K mg μ H (ds++es) (vs++us)
 | [],_,_,_,h,t=>by unfold RepAll at h; subst h; exact t
 | d::ds,_,_,_,h,t=>by
  unfold RepAll at h
  obtain ⟨v,r,rfl,h1,h2⟩:=h
  exact .cons h1 (RepAll.append h2 t)
theorem RepAll.take:∀ {ds:List D} {vs:List V} (n:Nat),RepAll K mg μ H ds vs→RepAll K mg μ H (ds.take n) (vs.take n)
 | _,_,0,_=>by simp only[List.take_zero]; exact .nil
 | [],_,n+1,h=>by unfold RepAll at h; subst h; simp only[List.take_nil]; exact .nil
 | d::ds,_,n+1,h=>by
  unfold RepAll at h
  obtain ⟨v,r,rfl,h1,h2⟩:=h
  exact .cons h1 (RepAll.take n h2)
theorem RepAll.drop:∀ {ds:List D} {vs:List V} (n:Nat),RepAll K mg μ H ds vs→RepAll K mg μ H (ds.drop n) (vs.drop n)
 | _,_,0,h=>h
 | [],_,n+1,h=>by unfold RepAll at h; subst h; simp only[List.drop_nil]; exact .nil
 | d::ds,_,n+1,h=>by
  unfold RepAll at h
  obtain ⟨v,r,rfl,h1,h2⟩:=h
  exact RepAll.drop n h2
theorem RepAll.set {d:D} {v:V} (r:Rep K mg μ H d v):∀ {ds:List D} {vs:List V} (i:Nat),RepAll K mg μ H ds vs→RepAll K mg μ H (ds.set i d) (vs.set i v)
 | [],_,i,h=>by unfold RepAll at h; subst h; exact .nil
 | e::ds,_,0,h=>by
  unfold RepAll at h
  obtain ⟨w,q,rfl,h1,h2⟩:=h
  exact .cons r h2
 | e::ds,_,i+1,h=>by
  unfold RepAll at h
  obtain ⟨w,q,rfl,h1,h2⟩:=h
  exact .cons h1 (RepAll.set r i h2)
theorem RepO.step_sm (s:Sm H H') {o:O} {a:Addr} (h:RepO K mg μ H o a):RepO K mg μ H' o a:=by
 have st:Step μ H μ H':=.of_sm s
 cases o with
 | lst ds=>obtain ⟨vs,h1,h2⟩:=h; exact ⟨vs,s _ _ h1,RepAll.step st _ _ h2⟩
 | dct t kvs=>
  cases t<;>(obtain ⟨vs,ks,⟨e,k⟩,h2⟩:=h; exact ⟨vs,ks,⟨s _ _ e,k⟩,RepAll.step st _ _ h2⟩)
 | ins C fs=>obtain ⟨Ca,dx,vs,g,h1,h2⟩:=h; exact ⟨Ca,dx,vs,g,s _ _ h1,RepAll.step st _ _ h2⟩
 | fdc t kvs=>
  cases t<;>(obtain ⟨vs,ks,⟨⟨od,e⟩,k⟩,h2⟩:=h; exact ⟨vs,ks,⟨⟨od,s _ _ e⟩,k⟩,RepAll.step st _ _ h2⟩)
/-- its own object stays -/
theorem RepO.stepW (st:StpW μ H μ' H') {o:O} {a:Addr} (e:∀u,H a=some u→H' a=some u) (h:RepO K mg μ H o a):RepO K mg μ' H' o a:=by
 cases o with
 | lst ds=>obtain ⟨vs,h1,h2⟩:=h; exact ⟨vs,e _ h1,RepAll.stpW st _ _ h2⟩
 | dct t kvs=>
  cases t<;>(obtain ⟨vs,ks,⟨q,k⟩,h2⟩:=h; exact ⟨vs,ks,⟨e _ q,k⟩,RepAll.stpW st _ _ h2⟩)
 | ins C fs=>obtain ⟨Ca,dx,vs,g,h1,h2⟩:=h; exact ⟨Ca,dx,vs,g,e _ h1,RepAll.stpW st _ _ h2⟩
 | fdc t kvs=>
  cases t<;>(obtain ⟨vs,ks,⟨⟨od,q⟩,k⟩,h2⟩:=h; exact ⟨vs,ks,⟨⟨od,e _ q⟩,k⟩,RepAll.stpW st _ _ h2⟩)
theorem RepO.step (st:Stp μ H μ' H') {o:O} {a:Addr} (e:∀u,H a=Option.some u→H' a=Option.some u) (h:RepO K mg μ H o a):RepO K mg μ' H' o a:=h.stepW st.toStpW e
theorem RepO.some {o:O} {a:Addr} (h:RepO K mg μ H o a):∃u,H a=some u:=by
 cases o with
 | lst ds=>obtain ⟨vs,h1,h2⟩:=h; exact ⟨_,h1⟩
 | dct t kvs=>
  cases t<;>(obtain ⟨vs,ks,⟨q,k⟩,h2⟩:=h; exact ⟨_,q⟩)
 | ins C fs=>obtain ⟨Ca,dx,vs,g,h1,h2⟩:=h; exact ⟨_,h1⟩
 | fdc t kvs=>
  cases t<;>(obtain ⟨vs,ks,⟨⟨od,q⟩,k⟩,h2⟩:=h; exact ⟨_,q⟩)
theorem RepO.nt {o:O} {a:Addr} (h:RepO K mg μ H o a) {ps:Array Value} (e:H a=Option.some (HO.tbl ps)):False:=by
 cases o with
 | lst ds=>obtain ⟨vs,h1,h2⟩:=h; rw[e] at h1; cases h1
 | dct t kvs=>
  cases t<;>(obtain ⟨vs,ks,⟨q,k⟩,h2⟩:=h; rw[e] at q; cases q)
 | ins C fs=>obtain ⟨Ca,dx,vs,g,h1,h2⟩:=h; rw[e] at h1; cases h1
 | fdc t kvs=>
  cases t<;>(obtain ⟨vs,ks,⟨⟨od,q⟩,k⟩,h2⟩:=h; rw[e] at q; cases q)
variable {S:Sto} {env:En} {σ:L2.St}
theorem RelS.sm (s:Sm H H') (h:RelS K mg μ H S):RelS K mg μ H' S:=
 ⟨h.len,h.nd,h.dis,fun a ha=>let ⟨u,e,t⟩:=h.hid a ha; ⟨u,s a u e,t⟩,fun l o e=>let ⟨a,h1,h2⟩:=h.at_ l o e; ⟨a,h1,h2.step_sm s⟩,h.tab.ext s⟩
theorem RelE.stpW (s:StpW μ H μ' H') (h:RelE K mg μ H env σ):RelE K mg μ' H' env σ:=
 ⟨h.len,fun i d e=>let ⟨v,h1,h2⟩:=h.at_ i d e; ⟨v,h1,Rep.stpW s _ _ h2⟩⟩
theorem RelE.stp (s:Stp μ H μ' H') (h:RelE K mg μ H env σ):RelE K mg μ' H' env σ:=h.stpW s.toStpW
theorem RelE.step (s:Step μ H μ' H') (h:RelE K mg μ H env σ):RelE K mg μ' H' env σ:=h.stp s.toStp
theorem RelE.set (h:RelE K mg μ H env σ) {i:Nat} {d:D} {v:V} (r:Rep K mg μ H d v):RelE K mg μ H (env.set i (some d)) (σ.set i (some v)):=by
 refine ⟨by simp[h.len],fun j e q=>?_⟩
 by_cases hj:j=i
 ·subst hj
  have hl:j<env.length:=by
   have:=(List.getElem?_eq_some_iff.mp q).1; simpa using this
  rw[List.getElem?_set_self hl] at q
  cases q
  exact ⟨v,by rw[List.getElem?_set_self (by rw[←h.len]; exact hl)],r⟩
 ·rw[List.getElem?_set_ne (Ne.symm hj)] at q
  rw[List.getElem?_set_ne (Ne.symm hj)]
  exact h.at_ j e q
theorem Rl.sm (s:Sm H H') (h:Rl K mg μ H env σ S):Rl K mg μ H' env σ S:=⟨h.env.step (.of_sm s),h.sto.sm s⟩
theorem RelS.notin (rs:RelS K mg μ H S) {p:Addr} (hp:H p=none):p∉μ.l:=fun z=>by
 obtain ⟨l,hl,e⟩:=List.getElem_of_mem z
 obtain ⟨a',h1,h2⟩:=rs.at_ l (S[l]'(by rw[rs.len]; exact hl)) (List.getElem?_eq_getElem (by rw[rs.len]; exact hl))
 rw[List.getElem?_eq_getElem hl,e] at h1; cases h1
 obtain ⟨u,hu⟩:=h2.some
 rw[hp] at hu; cases hu
theorem RelS.notinH (rs:RelS K mg μ H S) {p:Addr} (hp:H p=none):p∉μ.h:=fun z=>by
 obtain ⟨u,e,_⟩:=rs.hid p z
 rw[hp] at e; cases e
theorem RelS.fresh (rs:RelS K mg μ H S) {p:Addr} (hp:H p=none):p∉μ:=fun z=>z.elim (rs.notin hp) (rs.notinH hp)
theorem RelS.ntab (rs:RelS K mg μ H S) {l:Nat} {a:Addr} (hl:μ.l[l]?=some a) {ps:Array Value} (e:H a=Option.some (HO.tbl ps)):False:=by
 have hl2:l<S.length:=by rw[rs.len]; exact (List.getElem?_eq_some_iff.mp hl).1
 obtain ⟨a',h1,h2⟩:=rs.at_ l _ (List.getElem?_eq_getElem hl2)
 rw[hl] at h1; cases h1
 exact h2.nt e
theorem nR {T:List (Addr × Str)} {p:Addr} {ho:HO} (h:LamX.Tabs T H) (n:∀ps,H p≠some (.tbl ps)) (nc:∀c q,H p≠some (LamX.CodeO c q)):LamX.Tabs T (upd H p ho):=fun q hq=>by
 obtain ⟨ps,h1,h2,h3⟩:=h q hq
 refine ⟨ps,by rw[upd_ne fun z=>n ps (by rw[←z]; exact h1)]; exact h1,h2,fun pos cv e=>?_⟩
 obtain ⟨c,e1,e2⟩:=h3 pos cv e
 exact ⟨c,e1,by rw[upd_ne fun z=>nc c q.2 (by rw[←z]; exact e2)]; exact e2⟩
theorem RepO.nc {o:O} {a c:Addr} {q:Str} (h:RepO K mg μ H o a) (e:H a=Option.some (LamX.CodeO c q)):False:=by
 unfold LamX.CodeO at e
 cases o with
 | lst ds=>obtain ⟨vs,h1,h2⟩:=h; rw[e] at h1; cases h1
 | dct t kvs=>
  cases t<;>(obtain ⟨vs,ks,⟨q,k⟩,h2⟩:=h; rw[e] at q; cases q)
 | ins C fs=>obtain ⟨Ca,dx,vs,g,h1,h2⟩:=h; rw[e] at h1; cases h1
 | fdc t kvs=>
  cases t<;>(obtain ⟨vs,ks,⟨⟨od,q⟩,k⟩,h2⟩:=h; rw[e] at q; cases q)
theorem RelS.ncode (rs:RelS K mg μ H S) {l:Nat} {a c:Addr} {q:Str} (hl:μ.l[l]?=some a) (e:H a=Option.some (LamX.CodeO c q)):False:=by
 have hl2:l<S.length:=by rw[rs.len]; exact (List.getElem?_eq_some_iff.mp hl).1
 obtain ⟨a',h1,h2⟩:=rs.at_ l _ (List.getElem?_eq_getElem hl2)
 rw[hl] at h1; cases h1
 exact h2.nc e
/-- a new object -/
theorem RelS.push (h:RelS K mg μ H S) {p:Addr} {ho:HO} {o:O} (hp:H p=none) (r:RepO K mg (μ.push p) (upd H p ho) o p):RelS K mg (μ.push p) (upd H p ho) (S++[o]):=by
 have st:Step μ H (μ.push p) (upd H p ho):=.new_loc hp
 have np:p∉μ.l:=h.notin hp
 have hh:p∉μ.h:=h.notinH hp
 refine ⟨by simp[h.len,Mu.push],List.nodup_append.mpr ⟨h.nd,zqS,fun a ha b hb=>?_⟩,fun a ha=>?_,fun a ha=>?_,fun l u e=>?_,h.tab.ext (Sm.upd hp)⟩
 ·have:b=p:=by simpa using hb
  subst this
  exact fun z=>np (z▸ha)
 ·rcases List.mem_append.mp ha with e|e
  ·exact h.dis a e
  ·have:a=p:=by simpa using e
   subst this; exact hh
 ·obtain ⟨u,e,t⟩:=h.hid a ha
  exact ⟨u,by rw[upd_ne (ne_of_none e hp)]; exact e,t⟩
 ·by_cases hl:l<S.length
  ·rw[List.getElem?_append_left hl] at e
   obtain ⟨a,h1,h2⟩:=h.at_ l u e
   exact ⟨a,st.get h1,h2.step st.toStp fun w q=>by rw[upd_ne (ne_of_none q hp)]; exact q⟩
  ·rw[List.getElem?_append_right zqO] at e
   have hl2:l - S.length=0:=by
    have:=(List.getElem?_eq_some_iff.mp e).1
    simp at this; omega
   rw[hl2] at e
   simp at e
   subst e
   have:l=S.length:=zqO
   subst this
   exact ⟨p,by rw[h.len]; simp[Mu.push],r⟩
/-- an object written -/
theorem RelS.write (h:RelS K mg μ H S) {l:Nat} {p:Addr} {ho:HO} {o:O} (hp:μ.l[l]?=some p) (nf:NF H p) (r:RepO K mg μ (upd H p ho) o p):RelS K mg μ (upd H p ho) (S.set l o):=by
 have st:Step μ H μ (upd H p ho):=.write' hp (h.dis p (List.mem_of_getElem? hp)) nf
 refine ⟨by simp[h.len],h.nd,h.dis,fun a ha=>?_,fun j u e=>?_,nR h.tab (fun ps z=>h.ntab hp z) fun c q z=>h.ncode hp z⟩
 ·obtain ⟨u,e,t⟩:=h.hid a ha
  by_cases hap:a=p
  ·subst hap
   exact absurd ha (h.dis a (List.mem_of_getElem? hp))
  ·exact ⟨u,by rw[upd_ne hap]; exact e,t⟩
 by_cases hj:j=l
 ·subst hj
  have hl:j<S.length:=by
   have:=(List.getElem?_eq_some_iff.mp e).1; simpa using this
  rw[List.getElem?_set_self hl] at e
  cases e
  exact ⟨p,hp,r⟩
 ·rw[List.getElem?_set_ne (Ne.symm hj)] at e
  obtain ⟨a,h1,h2⟩:=h.at_ j u e
  have na:a≠p:=fun z=>by
   subst z
   have e1:=List.getElem?_eq_some_iff.mp h1
   have e2:=List.getElem?_eq_some_iff.mp hp
   exact hj ((List.getElem_inj h.nd).mp (e1.2.trans e2.2.symm))
  exact ⟨a,h1,h2.step st.toStp fun w q=>by rw[upd_ne na]; exact q⟩
theorem Step.write (h:RelS K mg μ H S) {l:Nat} {a:Addr} {o:HO} (hp:μ.l[l]?=some a) (nf:NF H a):Step μ H μ (upd H a o):=.write' hp (h.dis a (List.mem_of_getElem? hp)) nf
/-- something hidden is made,is written -/
theorem RelS.hide (h:RelS K mg μ H S) {p:Addr} {ho:HO} (hp:H p=none) (ht:Hdn ho:=by first|exact .inl ⟨_,rfl⟩|exact .inr (.inl ⟨_,rfl⟩)|exact .inr (.inr ⟨_,rfl⟩)):RelS K mg (μ.hide p) (upd H p ho) S:=by
 have st:Stp μ H (μ.hide p) (upd H p ho):=.new_hid hp
 have np:=h.notin hp
 refine ⟨h.len,h.nd,fun a ha=>?_,fun a ha=>?_,fun l o e=>?_,h.tab.ext (Sm.upd hp)⟩
 ·intro z
  rcases List.mem_cons.mp z with e|e
  ·subst e; exact np ha
  ·exact h.dis a ha e
 ·rcases List.mem_cons.mp ha with e|e
  ·subst e; exact ⟨_,upd_same,ht⟩
  ·obtain ⟨u,e,t⟩:=h.hid a e
   exact ⟨u,by rw[upd_ne (ne_of_none e hp)]; exact e,t⟩
 ·obtain ⟨a,h1,h2⟩:=h.at_ l o e
  exact ⟨a,h1,h2.step st fun u q=>by rw[upd_ne (ne_of_none q hp)]; exact q⟩
theorem RelS.write_hid (h:RelS K mg μ H S) {p:Addr} {ho:HO} (hp:p∈μ.h) (ht:Hdn ho:=by first|exact .inl ⟨_,rfl⟩|exact .inr (.inl ⟨_,rfl⟩)|exact .inr (.inr ⟨_,rfl⟩)):RelS K mg μ (upd H p ho) S:=by
 have st:Stp μ H μ (upd H p ho):=.write_hid hp (by obtain ⟨u,e,t⟩:=h.hid p hp; exact Hdn.nf e t)
 refine ⟨h.len,h.nd,h.dis,fun a ha=>?_,fun l o e=>?_,nR h.tab (fun ps z=>?_) fun c q z=>?_⟩
 ·obtain ⟨u,e,t⟩:=h.hid a ha
  by_cases hap:a=p
  ·exact ⟨_,by rw[hap]; exact upd_same,ht⟩
  ·exact ⟨u,by rw[upd_ne hap]; exact e,t⟩
 rotate_left
 ·obtain ⟨u,e,t⟩:=h.hid p hp
  rw[z] at e; cases e
  exact t.ntb ps rfl
 ·obtain ⟨u,e,t⟩:=h.hid p hp
  rw[z] at e; cases e
  exact t.nc c q rfl
 obtain ⟨a,h1,h2⟩:=h.at_ l o e
 have na:a≠p:=fun z=>h.dis a (List.mem_of_getElem? h1) (z▸hp)
 exact ⟨a,h1,h2.step st fun u q=>by rw[upd_ne na]; exact q⟩
/-- less is hidden -/
theorem Stp.unhide {h':List Addr} (hs:∀a∈h',a∈μ.h):Stp μ H ⟨μ.l,h'⟩ H:=⟨⟨⟨[],zqS⟩,fun a ha=>.inl (ha.elim .inl fun z=>.inr (hs a z)),fun _ _ e _ _=>e⟩,fun _ _ _ e=>e⟩
theorem RelS.unhide {h':List Addr} (hs:∀a∈h',a∈μ.h) (h:RelS K mg μ H S):RelS K mg ⟨μ.l,h'⟩ H S:=
 ⟨h.len,h.nd,fun a ha z=>h.dis a ha (hs a z),fun a ha=>h.hid a (hs a ha),fun l o e=>let ⟨a,h1,h2⟩:=h.at_ l o e; ⟨a,h1,h2.step (.unhide hs) fun _ q=>q⟩,h.tab⟩
end
end DL
namespace DL
open PySem PySem.Spec PyProof.Rows L2
inductive Res (α:Type) where
 | ok (a:α) (S:Sto)|exc (e:XV) (S:Sto)|stuck
abbrev ME:=En→Sto→Res D
abbrev MA:=En→Sto→Res (List D)
abbrev MT:=En→Sto→Res Bool
def Res.bind {α β:Type}:Res α→(α→Sto→Res β)→Res β
 | .ok a S,f=>f a S
 | .exc e S,_=>.exc e S
 | .stuck,_=>.stuck
def ofO {α:Type} (S:Sto):Option α→Res α
 | some a=>.ok a S
 | none=>.stuck
section
variable (K:PySem.W.Frag) (mg:Str→Option Value)
def Out {α β:Type} (W:WX) (σ:L2.St) (μ:Mu) (H:Hp) (R:Mu→Hp→α→β→Prop) (Q:β→Hp→Prop):Res α→Prop
 | .ok a S=>∀μ' H' b,Step μ H μ' H'→RelS K mg μ' H' S→R μ' H' a b→Q b H'
 | .exc e S=>∀μ' H' cls dd,Step μ H μ' H'→RelS K mg μ' H' S→RepX K mg μ' H' e cls dd→W cls dd σ H'
 | .stuck=>False
end
section
variable {K:PySem.W.Frag} {mg:Str→Option Value} {α α' β β':Type} {W:WX} {σ:L2.St} {μ μ1:Mu} {H H1:Hp} {R:Mu→Hp→α→β→Prop} {R':Mu→Hp→α'→β'→Prop}
theorem Out.of_step {Q:β→Hp→Prop} {r:Res α} (st:Step μ H μ1 H1) (o:Out K mg W σ μ H R Q r):Out K mg W σ μ1 H1 R Q r:=by
 cases r with
 | ok a S=>exact fun μ' H' b s=>o μ' H' b (st.trans s)
 | exc e S=>exact fun μ' H' c d s=>o μ' H' c d (st.trans s)
 | stuck=>exact o
theorem Out.mono {Q Q':β→Hp→Prop} {r:Res α} (o:Out K mg W σ μ H R Q r) (h:∀b H',Q b H'→Q' b H'):Out K mg W σ μ H R Q' r:=by
 cases r with
 | ok a S=>exact fun μ' H' b s t u=>h _ _ (o μ' H' b s t u)
 | exc e S=>exact o
 | stuck=>exact o
theorem Out.bind {Q:β'→Hp→Prop} {r:Res α} {f:α→Sto→Res α'} (o:Out K mg W σ μ H R' Q (r.bind f)) :
  Out K mg W σ μ H R (fun b H1=>∃μ1 S1 a,Step μ H μ1 H1∧RelS K mg μ1 H1 S1∧R μ1 H1 a b∧Out K mg W σ μ1 H1 R' Q (f a S1)) r:=by
 cases r with
 | ok a S=>exact fun μ' H' b s t u=>⟨μ',S,a,s,t,u,Out.of_step s o⟩
 | exc e S=>exact o
 | stuck=>exact o
end
/-- the reading of a computation -/
def tM (X:Cx) {α β:Type} (R:Mu→Hp→α→β→Prop) (W:WX) (m:En→Sto→Res α):L2.St→Hp→(β→Hp→Prop)→Prop:=fun σ H Q=>
 ∃env S μ,Rl X.K X.mg μ H env σ S∧Out X.K X.mg W σ μ H R Q (m env S)
abbrev tE (X:Cx) (W:WX) (m:ME):TE:=tM X (fun μ H a b=>Rep X.K X.mg μ H a b) W m
abbrev tAs (X:Cx) (W:WX) (m:MA):TA:=tM X (fun μ H a b=>RepAll X.K X.mg μ H a b) W m
abbrev tT (X:Cx) (W:WX) (m:MT):TT:=tM X (fun _ _ a b=>b=a) W m
theorem b4 {X:Cx} {e:Expr} {t t':TE} (h:PE X e t) (i:∀σ H Q,t' σ H Q→t σ H Q):PE X e t':=⟨fun pins s σ H Q I w=>h.run pins s σ H Q I (i σ H Q w)⟩
theorem qe {X:Cx} {e:Expr} {t t':TT} (h:PT X e t) (i:∀σ H Q,t' σ H Q→t σ H Q):PT X e t':=⟨fun pins s σ H Q I w=>h.run pins s σ H Q I (i σ H Q w)⟩
theorem pw_to {X:Cx} {e:Expr} {t t':TT} (h:PW X e t) (i:∀σ H Q,t' σ H Q→t σ H Q):PW X e t':=⟨fun wh pins s σ H Q I w=>h.run wh pins s σ H Q I (i σ H Q w)⟩
theorem pa_to {X:Cx} {e:List Expr} {t t':TA} (h:PA X e t) (i:∀σ H Q,t' σ H Q→t σ H Q):PA X e t':=⟨fun p pins s σ H Q I w=>h.run p pins s σ H Q I (i σ H Q w)⟩
def vt:D→D
 | .tpn xs=>.tup xs
 | d=>d
def view0 (S:Sto):D→D
 | .loc l=>match S[l]? with
  | some (.lst xs)=>.lst xs
  | _=>.loc l
 | d=>d
def view (S:Sto) (d:D):D:=vt (view0 S d)
section
variable (K:PySem.W.Frag) (mg:Str→Option Value)
def RepV (μ:Mu) (H:Hp):D→V→Prop
 | .lst ds,v=>∃a vs,v=.ref a∧H a=some (.lst vs)∧RepAll K mg μ H ds vs
 | d,v=>Rep K mg μ H d v
def RepW (μ:Mu) (H:Hp):D→V→Prop
 | .lst ds,v=>∃a vs,v=.ref a∧H a=some (.lst vs)∧RepAll K mg μ H ds vs
 | .tup ds,v=>∃a vs,v=.ref a∧Rd H a (.tup vs)∧RepAll K mg μ H ds vs∧a∉μ
 | d,v=>Rep K mg μ H d v
end
section
variable {K:PySem.W.Frag} {mg:Str→Option Value} {μ μ1:Mu} {H H1:Hp} {S:Sto}
theorem Rep.wv {d:D} {v:V} (h:Rep K mg μ H d v):RepV K mg μ H d v:=by
 cases d with
 | lst ds=>
  unfold Rep at h
  obtain ⟨a,vs,e,h1,_,h2⟩:=h
  exact ⟨a,vs,e,h1,h2⟩
 | _=>exact h
theorem RepV.vt {d:D} {v:V} (h:RepV K mg μ H d v):RepW K mg μ H (vt d) v:=by
 cases d with
 | lst ds=>exact h
 | tup ds=>
  have h:Rep K mg μ H (.tup ds) v:=h
  unfold Rep at h
  obtain ⟨a,vs,e,h1,n,h2⟩:=h
  exact ⟨a,vs,e,.of h1,h2,n⟩
 | tpn ds=>
  have h:Rep K mg μ H (.tpn ds) v:=h
  unfold Rep at h
  obtain ⟨a,vs,o,e,⟨h1,_⟩,n,h2⟩:=h
  exact ⟨a,vs,e,.inr ⟨o,h1⟩,h2,n⟩
 | _=>exact h
theorem Rep.w {d:D} {v:V} (h:Rep K mg μ H d v):RepW K mg μ H d v:=by
 cases d with
 | lst ds=>exact h.wv
 | tup ds=>exact h.wv.vt
 | _=>exact h
theorem RelS.view0 (rs:RelS K mg μ H S) {d:D} {v:V} (h:Rep K mg μ H d v):RepV K mg μ H (view0 S d) v:=by
 cases d with
 | loc l=>
  show RepV K mg μ H (match S[l]? with|some (.lst xs)=>.lst xs|_=>.loc l) v
  split
  ·rename_i xs e
   unfold Rep at h
   obtain ⟨a,ev,ha⟩:=h
   obtain ⟨a',h1,vs,h2,h3⟩:=rs.at_ l _ e
   rw[ha] at h1; cases h1
   exact ⟨a,vs,ev,h2,h3⟩
  ·exact h.wv
 | _=>exact h.wv
theorem RelS.view (rs:RelS K mg μ H S) {d:D} {v:V} (h:Rep K mg μ H d v):RepW K mg μ H (view S d) v:=(rs.view0 h).vt
end
def rS (K:PySem.W.Frag) (mg:Str→Option Value) (f:Sto→D→D→Option D):R2:=fun x y H Q=>
 ∃μ S a b d,RelS K mg μ H S∧Rep K mg μ H a x∧Rep K mg μ H b y∧f S a b=some d∧∀H' v,Sm H H'→Rep K mg μ H' d v→Q v H'
def lv (f:D→D→Option D):Sto→D→D→Option D:=fun S a b=>f (view S a) (view S b)
def lv0 (f:D→D→Option D):Sto→D→D→Option D:=fun S a b=>f (view0 S a) (view0 S b)
abbrev rP (K:PySem.W.Frag) (mg:Str→Option Value) (f:D→D→Option D):R2:=rS K mg (lv f)
def aJ (f:Sto→D→D→Option D) (ma mb:ME):ME:=fun env S=>(ma env S).bind fun a S=>(mb env S).bind fun b S=>ofO S (f S a b)
section
variable {X:Cx} {W:WX} {a b:Expr} {pos:Pos} {ma mb:ME}
theorem qf {f:Sto→D→D→Option D} {σ:L2.St} {H:Hp} {Q:VK} (h:tE X W (aJ f ma mb) σ H Q):tOp (rS X.K X.mg f) (tE X W ma) (tE X W mb) σ H Q:=by
 obtain ⟨env,S,μ,rl,o⟩:=h
 refine ⟨env,S,μ,rl,(Out.bind o).mono fun x H1 ⟨μ1,S1,da,st,rs,ra,o1⟩=>?_⟩
 refine ⟨env,S1,μ1,⟨rl.env.step st,rs⟩,(Out.bind o1).mono fun y H2 ⟨μ2,S2,db,st2,rs2,rb,o2⟩=>?_⟩
 cases e:f S2 da db with
 | none=>rw[e] at o2; exact o2.elim
 | some d=>
  rw[e] at o2
  exact ⟨μ2,S2,_,_,d,rs2,Rep.step st2 _ _ ra,rb,e,fun H' v sm r=>o2 μ2 H' v (.of_sm sm) (rs2.sm sm) r⟩
theorem aN {op:Operator} {f:Sto→D→D→Option D} (ho:OpR X (binaryOp op) (rS X.K X.mg f)) (ha:PE X a (tE X W ma)) (hb:PE X b (tE X W mb)):PE X (.BinOp a op b pos) (tE X W (aJ f ma mb)):=
 b4 (pe_op ho ha hb) fun _ _ _ h=>qf h
theorem iL {op:CmpOp} {f:Sto→D→D→Option D} (ho:OpR X (compareOp op) (rS X.K X.mg f)) (ha:PE X a (tE X W ma)) (hb:PE X b (tE X W mb)) (hm:behindInMarks op b=false):PE X (.Compare a [op] [b] pos) (tE X W (aJ f ma mb)):=
 b4 (pe_cmpR ho ha hb hm) fun _ _ _ h=>qf h
/-- a computation whose value is a bool,as a test -/
def tOf (m:ME):MT:=fun env S=>(m env S).bind fun d S=>match d with
 | .bool b=>.ok b S
 | _=>.stuck
theorem t_of {m:ME} {σ:L2.St} {H:Hp} {Q:Bool→Hp→Prop} (h:tT X W (tOf m) σ H Q):tTest (tE X W m) σ H Q:=by
 obtain ⟨env,S,μ,rl,o⟩:=h
 refine ⟨env,S,μ,rl,(Out.bind o).mono fun x H1 ⟨μ1,S1,d,st,rs,r,o1⟩=>?_⟩
 cases d with
 | bool b=>unfold Rep at r; exact ⟨b,r,o1 μ1 H1 b .refl rs rfl⟩
 | _=>exact o1.elim
theorem aY {op:CmpOp} {f:Sto→D→D→Option D} (ho:OpR X (compareOp op) (rS X.K X.mg f)) (ha:PE X a (tE X W ma)) (hb:PE X b (tE X W mb)) (hm:behindInMarks op b=false):PT X (.Compare a [op] [b] pos) (tT X W (tOf (aJ f ma mb))):=
 qe (pt_cmpR ho ha hb hm) fun σ H Q h=>by
  obtain h:=t_of h
  obtain ⟨env,S,μ,rl,o⟩:=h
  exact qf ⟨env,S,μ,rl,o⟩
end
def oI (g:Int→Int→Int):D→D→Option D
 | .int i,.int j=>some (.int (g i j))
 | _,_=>none
def oIC (C:Int→Int→Bool) (g:Int→Int→Int):D→D→Option D
 | .int i,.int j=>if C i j then some (.int (g i j)) else none
 | _,_=>none
def oIB (g:Int→Int→Bool):D→D→Option D
 | .int i,.int j=>some (.bool (g i j))
 | _,_=>none
theorem RepW.int {K:PySem.W.Frag} {mg:Str→Option Value} {μ:Mu} {H:Hp} {i:Int} {v:V} (h:RepW K mg μ H (.int i) v):v=.int i:=by
 have h:Rep K mg μ H (.int i) v:=h
 unfold Rep at h; exact h
theorem RepW.str {K:PySem.W.Frag} {mg:Str→Option Value} {μ:Mu} {H:Hp} {i:Str} {v:V} (h:RepW K mg μ H (.str i) v):v=.str i:=by
 have h:Rep K mg μ H (.str i) v:=h
 unfold Rep at h; exact h
theorem RepW.tup {K:PySem.W.Frag} {mg:Str→Option Value} {μ:Mu} {H:Hp} {ds:List D} {v:V} (h:RepW K mg μ H (.tup ds) v):∃a vs,v=.ref a∧Rd H a (.tup vs)∧RepAll K mg μ H ds vs∧a∉μ:=h
section
variable {X:Cx}
theorem bK {K:PySem.W.Frag} {mg:Str→Option Value} {μ:Mu} {H:Hp} (i:Int):Rep K mg μ H (.int i) (.int i):=by unfold Rep; rfl
theorem bj {K:PySem.W.Frag} {mg:Str→Option Value} {μ:Mu} {H:Hp} (i:Bool):Rep K mg μ H (.bool i) (.bl i):=by unfold Rep; rfl
theorem fM {K:PySem.W.Frag} {mg:Str→Option Value} {μ:Mu} {H:Hp} (i:Str):Rep K mg μ H (.str i) (.str i):=by unfold Rep; rfl
theorem iX {K:PySem.W.Frag} {mg:Str→Option Value} {μ:Mu} {H:Hp}:Rep K mg μ H .none .non:=by unfold Rep; rfl
theorem u5 {f:Value→Value→Sem Value} {r r':R2} (h:OpR X f r) (i:∀x y H Q,r' x y H Q→r x y H Q):OpR X f r':=fun pins s σ H x y v u Q I rx ry w=>h pins s σ H x y v u Q I rx ry (i _ _ _ _ w)
/-- an operator over views -/
theorem kH {f:Value→Value→Sem Value} {g:D→D→Option D} {r:R2} (h:OpR X f r)
  (i:∀μ x y H Q a b d,RepW X.K X.mg μ H a x→RepW X.K X.mg μ H b y→g a b=some d→(∀H' v,Sm H H'→Rep X.K X.mg μ H' d v→Q v H')→r x y H Q):OpR X f (rP X.K X.mg g):=
 u5 h fun x y H Q ⟨μ,S,a,b,d,rs,ra,rb,e,q⟩=>i μ x y H Q _ _ d (rs.view ra) (rs.view rb) e q
theorem opI_D {f:Value→Value→Sem Value} {g:Int→Int→Int} (h:OpR X f (rI0 fun i j=>.int (g i j))):OpR X f (rP X.K X.mg (oI g)):=kH h fun μ x y H Q a b d ra rb e q=>by
 unfold oI at e
 split at e
 ·cases e
  exact ⟨_,_,ra.int,rb.int,q H _ .rfl (bK _)⟩
 ·cases e
theorem mM {f:Value→Value→Sem Value} {C:Int→Int→Prop} {Cb:Int→Int→Bool} {g:Int→Int→Int} (hC:∀i j,Cb i j=true→C i j) (h:OpR X f (rI C fun i j=>.int (g i j))):OpR X f (rP X.K X.mg (oIC Cb g)):=kH h fun μ x y H Q a b d ra rb e q=>by
 unfold oIC at e
 split at e
 ·split at e
  ·rename_i hc
   cases e
   exact ⟨_,_,ra.int,rb.int,hC _ _ hc,q H _ .rfl (bK _)⟩
  ·cases e
 ·cases e
theorem mN {f:Value→Value→Sem Value} {g:Int→Int→Bool} (h:OpR X f (rI0 fun i j=>.bl (g i j))):OpR X f (rP X.K X.mg (oIB g)):=kH h fun μ x y H Q a b d ra rb e q=>by
 unfold oIB at e
 split at e
 ·cases e
  exact ⟨_,_,ra.int,rb.int,q H _ .rfl (bj _)⟩
 ·cases e
def bV (i j:Int):Bool:=(decide (-(2 ^ 64)<i)&&decide (i<2 ^ 64))||(decide (-(2 ^ 64)<j)&&decide (j<2 ^ 64))
def iA (_ j:Int):Bool:=decide (0<j)&&decide (j<1073741824)
def dj (_ j:Int):Bool:=decide (0<j)
def cPow (i j:Int):Bool:=decide (0≤j)&&decide (j≤1000000)&&decide (i.natAbs<2 ^ 64)
abbrev nS:=oI (fun i j=>i - j)
abbrev eJ:=oIC bV (fun i j=>i*j)
abbrev dDiv:=oIC iA (fun i j=>i / j)
abbrev jv:=oIC dj (fun i j=>i % j)
abbrev dPow:=oIC cPow (fun i j=>i ^ j.toNat)
abbrev dLt:=oIB (fun i j=>decide (i<j))
abbrev dLe:=oIB (fun i j=>decide (i≤j))
abbrev dGt:=oIB (fun i j=>decide (j<i))
abbrev dGe:=oIB (fun i j=>decide (j≤i))
theorem kI:OpR X (binaryOp .Sub) (rP X.K X.mg nS):=opI_D op_sub
theorem c9:OpR X (binaryOp .Mult) (rP X.K X.mg eJ):=mM (fun i j h=>by
 simp only[bV,Bool.or_eq_true,Bool.and_eq_true,decide_eq_true_eq] at h; exact h) op_mul
theorem qg:OpR X (binaryOp .FloorDiv) (rP X.K X.mg dDiv):=mM (fun i j h=>by
 simp only[iA,Bool.and_eq_true,decide_eq_true_eq] at h; exact h) op_fdiv
theorem gK:OpR X (binaryOp .Mod) (rP X.K X.mg jv):=mM (C:=fun _ j=>0<j) (fun i j h=>by
 simp only[dj,decide_eq_true_eq] at h; exact h) op_mod
theorem o_pow:OpR X (binaryOp .Pow) (rP X.K X.mg dPow):=mM (fun i j h=>by
 simp only[cPow,Bool.and_eq_true,decide_eq_true_eq] at h; exact ⟨h.1.1,h.1.2,h.2⟩) op_pow
theorem o_lt:OpR X (compareOp .Lt) (rP X.K X.mg dLt):=mN op_lt
theorem pL:OpR X (compareOp .LtE) (rP X.K X.mg dLe):=mN op_le
theorem o_gt:OpR X (compareOp .Gt) (rP X.K X.mg dGt):=mN op_gt
theorem o_ge:OpR X (compareOp .GtE) (rP X.K X.mg dGe):=mN op_ge
def bH:D→D→Option D
 | .int i,.int j=>some (.int (i+j))
 | .str x,.str y=>if x.length+y.length≤1000000 then some (.str (x++y)) else none
 | .tup xs,.tup ys=>if xs.length+ys.length≤1000000 then some (.tup (xs++ys)) else none
 | .lst xs,.lst ys=>if xs.length+ys.length≤1000000 then some (.lst (xs++ys)) else none
 | .tpn xs,.tup ys=>if xs.length+ys.length≤1000000 then some (if xs=[] then .tup ys else if ys=[] then .tpn xs else .tup (xs++ys)) else none
 | .tup xs,.tpn ys=>if xs.length+ys.length≤1000000 then some (if xs=[] then .tpn ys else .tup (xs++ys)) else none
 | .tpn xs,.tpn ys=>if xs.length+ys.length≤1000000 then some (if xs=[] then .tpn ys else if ys=[] then .tpn xs else .tup (xs++ys)) else none
 | _,_=>none
theorem b6 {n:Nat} (h:n≤1000000):n≤sizeLine:=by rw[sizeLine_eq]; omega
end
theorem bh {K:PySem.W.Frag} {mg:Str→Option Value} {μ:Mu} {H:Hp} {S:Sto} (rs:RelS K mg μ H S) {p:Addr} (hp:H p=none) {ds:List D} {vs:List V} (l:RepAll K mg μ H ds vs) :
  Rep K mg μ (upd H p (.tup vs)) (.tup ds) (.ref p):=by
 unfold Rep
 exact ⟨p,vs,rfl,upd_same,rs.fresh hp,RepAll.step (.of_sm (.upd hp)) _ _ l⟩
theorem bz {K:PySem.W.Frag} {mg:Str→Option Value} {μ:Mu} {H:Hp} {S:Sto} (rs:RelS K mg μ H S) {p:Addr} (hp:H p=none) {ds:List D} {vs:List V} (l:RepAll K mg μ H ds vs) :
  Rep K mg μ (upd H p (.lst vs)) (.lst ds) (.ref p):=by
 unfold Rep
 exact ⟨p,vs,rfl,upd_same,rs.fresh hp,RepAll.step (.of_sm (.upd hp)) _ _ l⟩
section
variable {X:Cx}
theorem RepV.int {K:PySem.W.Frag} {mg:Str→Option Value} {μ:Mu} {H:Hp} {i:Int} {v:V} (h:RepV K mg μ H (.int i) v):v=.int i:=RepW.int h
theorem RepV.str {K:PySem.W.Frag} {mg:Str→Option Value} {μ:Mu} {H:Hp} {i:Str} {v:V} (h:RepV K mg μ H (.str i) v):v=.str i:=RepW.str h
theorem iY {pins:List (Addr × Obj)} {s:Shared} {σ:L2.St} {H:Hp} {x y:V} {v u:Value} {Q:VK} {μ:Mu} {S:Sto} {a b d:D} {xs ys:List D} (I:L2.Inv X pins σ H s) (rx:L2.RelV x v) (ry:L2.RelV y u) (rs:RelS X.K X.mg μ H S)
  (ra:RepV X.K X.mg μ H a x) (rb:RepV X.K X.mg μ H b y) (va:vt a=.tup xs) (vb:vt b=.tup ys) (hz:xs.length+ys.length≤1000000)
  (h1:xs=[]→d=b) (h2:xs≠[]→ys=[]→d=a) (h3:xs≠[]→ys≠[]→d=.tup (xs++ys)) (q:∀H' v,Sm H H'→Rep X.K X.mg μ H' d v→Q v H') :
  wpAny (model X.prog X.w) X.A (binaryOp .Add v u) (EP X pins σ Q) X.xe s:=by
 have wa:=ra.vt
 have wb:=rb.vt
 rw[va] at wa
 rw[vb] at wb
 have ra':Rep X.K X.mg μ H a x:=by
  cases a with
  | tup z=>exact ra
  | tpn z=>exact ra
  | _=>cases va
 have rb':Rep X.K X.mg μ H b y:=by
  cases b with
  | tup z=>exact rb
  | tpn z=>exact rb
  | _=>cases vb
 obtain ⟨p,vs,rfl,ha,la,sa⟩:=wa
 obtain ⟨p',us,rfl,hb,lb,sb⟩:=wb
 refine op_catA pins s σ H _ _ v u Q I rx ry ⟨p,p',vs,us,rfl,rfl,.inl ha,.inl hb,?_,fun h=>q H _ .rfl ?_,fun h0 h=>q H _ .rfl ?_,fun h0 h p hp=>q _ _ (.upd hp) ?_⟩
 ·rw[←la.length,←lb.length]; exact b6 hz
 ·subst h
  have:xs=[]:=List.length_eq_zero_iff.mp la.length
  rw[h1 this]; exact rb'
 ·subst h
  have e2:ys=[]:=List.length_eq_zero_iff.mp lb.length
  have e1:xs≠[]:=fun z=>h0 (by subst z; exact List.length_eq_zero_iff.mp la.length.symm)
  rw[h2 e1 e2]; exact ra'
 ·have e1:xs≠[]:=fun z=>h0 (by subst z; exact List.length_eq_zero_iff.mp la.length.symm)
  have e2:ys≠[]:=fun z=>h (by subst z; exact List.length_eq_zero_iff.mp lb.length.symm)
  rw[h3 e1 e2]
  exact bh rs hp (la.append lb)
theorem ar:OpR X (binaryOp .Add) (rS X.K X.mg (lv0 bH)):=by
 intro pins s σ H x y v u Q I rx ry ⟨μ,S,a,b,d,rs,ra,rb,e,q⟩
 have ra:=rs.view0 ra
 have rb:=rs.view0 rb
 simp only[lv0] at e
 generalize view0 S a=a at *
 generalize view0 S b=b at *
 unfold bH at e
 split at e
 ·cases e
  exact op_add pins s σ H x y v u Q I rx ry ⟨_,_,ra.int,rb.int,q H _ .rfl (bK _)⟩
 ·split at e
  ·rename_i hz
   cases e
   exact op_add_str pins s σ H x y v u Q I rx ry ⟨_,_,ra.str,rb.str,b6 hz,q H _ .rfl (fM _)⟩
  ·cases e
 ·split at e
  ·rename_i xs ys hz
   cases e
   exact iY I rx ry rs ra rb rfl rfl hz (fun h=>by subst h; rfl) (fun _ h=>by subst h; rw[List.append_nil]) (fun _ _=>rfl) q
  ·cases e
 ·split at e
  ·rename_i xs ys hz
   cases e
   obtain ⟨a,vs,ea,ha,la⟩:=ra
   obtain ⟨b,us,eb,hb,lb⟩:=rb
   refine op_cat pins s σ H x y v u Q I rx ry ⟨a,b,vs,us,ea,eb,ha,hb,by rw[←la.length,←lb.length]; exact b6 hz,fun p hp=>q _ _ (.upd hp) ?_⟩
   exact bz rs hp (la.append lb)
  ·cases e
 ·split at e
  ·rename_i xs ys hz
   cases e
   exact iY I rx ry rs ra rb rfl rfl hz (fun h=>by rw[if_pos h]) (fun h h'=>by rw[if_neg h,if_pos h']) (fun h h'=>by rw[if_neg h,if_neg h']) q
  ·cases e
 ·split at e
  ·rename_i xs ys hz
   cases e
   exact iY I rx ry rs ra rb rfl rfl hz (fun h=>by rw[if_pos h]) (fun h h'=>by rw[if_neg h,h',List.append_nil]) (fun h h'=>by rw[if_neg h]) q
  ·cases e
 ·split at e
  ·rename_i xs ys hz
   cases e
   exact iY I rx ry rs ra rb rfl rfl hz (fun h=>by rw[if_pos h]) (fun h h'=>by rw[if_neg h,if_pos h']) (fun h h'=>by rw[if_neg h,if_neg h']) q
  ·cases e
 ·cases e
end
def dok:Nat→D→Bool
 | _,.none=>true
 | _,.bool _=>true
 | _,.int _=>true
 | _,.str x=>PyData.strOk x
 | n+1,.tup xs=>xs.all (dok n)
 | n+1,.lst xs=>xs.all (dok n)
 | n+1,.tpn xs=>xs.all (dok n)
 | _,_=>false
mutual
def pdF:D→PyData
 | .none=>.none
 | .bool b=>.bool b
 | .int i=>.int i
 | .str x=>.str x
 | .tup xs=>.tuple (pdFs xs)
 | .lst xs=>.list (pdFs xs)
 | .tpn xs=>.tuple (pdFs xs)
 | .ro _=>.none
 | .ty _=>.none
 | .loc _=>.none
 | .glo _=>.none
 | .adr _=>.none
 | .clo _ _ _ _=>.none
 | .exn _ _ _ _=>.none
def pdFs:List D→List PyData
 | []=>[]
 | d::ds=>pdF d::pdFs ds
end
theorem j5:∀(ds:List D) (n:Nat),(∀d∈ds,(pdF d).canLay0=true∧(pdF d).depth≤n)→PyData.canLayAll0 (pdFs ds)=true∧PyData.depthAll (pdFs ds)≤n
 | [],n,_=>⟨by unfold pdFs PyData.canLayAll0; rfl,by unfold pdFs PyData.depthAll; omega⟩
 | d::ds,n,h=>by
  obtain ⟨a,b⟩:=h d List.mem_cons_self
  obtain ⟨c,e⟩:=j5 ds n fun x hx=>h x (List.mem_cons_of_mem _ hx)
  unfold pdFs PyData.canLayAll0 PyData.depthAll
  exact ⟨by rw[a,c]; rfl,zqO⟩
theorem fr:∀(n:Nat) (d:D),dok n d=true→(pdF d).canLay0=true∧(pdF d).depth≤n
 | n,.none,_=>by unfold pdF PyData.canLay0 PyData.depth; exact ⟨rfl,Nat.zero_le _⟩
 | n,.bool _,_=>by unfold pdF PyData.canLay0 PyData.depth; exact ⟨rfl,Nat.zero_le _⟩
 | n,.int _,_=>by unfold pdF PyData.canLay0 PyData.depth; exact ⟨rfl,Nat.zero_le _⟩
 | n,.str x,h=>by
  have h:PyData.strOk x=true:=by cases n<;>exact h
  unfold pdF PyData.canLay0 PyData.depth; exact ⟨h,Nat.zero_le _⟩
 | 0,.tup _,h=>by cases h
 | 0,.lst _,h=>by cases h
 | 0,.tpn _,h=>by cases h
 | n+1,.tpn xs,h=>by
  have h:xs.all (dok n)=true:=h
  have q:=j5 xs n fun d hd=>fr n d (List.all_eq_true.mp h d hd)
  unfold pdF PyData.canLay0 PyData.depth
  exact ⟨q.1,zqO⟩
 | n+1,.tup xs,h=>by
  have h:xs.all (dok n)=true:=h
  have q:=j5 xs n fun d hd=>fr n d (List.all_eq_true.mp h d hd)
  unfold pdF PyData.canLay0 PyData.depth
  exact ⟨q.1,zqO⟩
 | n+1,.lst xs,h=>by
  have h:xs.all (dok n)=true:=h
  have q:=j5 xs n fun d hd=>fr n d (List.all_eq_true.mp h d hd)
  unfold pdF PyData.canLay0 PyData.depth
  exact ⟨q.1,zqO⟩
 | n,.ro _,h=>by cases n<;>cases h
 | n,.ty _,h=>by cases n<;>cases h
 | n,.loc _,h=>by cases n<;>cases h
 | n,.glo _,h=>by cases n<;>cases h
 | n,.adr _,h=>by cases n<;>cases h
 | n,.clo _ _ _ _,h=>by cases n<;>cases h
 | n,.exn _ _ _ _,h=>by cases n<;>cases h
theorem dA {d:D} (h:dok 60 d=true):SeqAt.shaped (pdF d)=true:=by
 obtain ⟨a,b⟩:=fr 60 d h
 unfold SeqAt.shaped
 rw[a,Bool.true_and]
 exact decide_eq_true zqO
section
variable {K:PySem.W.Frag} {mg:Str→Option Value} {μ:Mu} {H:Hp}
mutual
theorem gL:∀(n:Nat) (d:D) (v:V),dok n d=true→RepW K mg μ H d v→Dp K H v (pdF d)
 | n,.none,v,_,r=>by
  have r:Rep K mg μ H .none v:=r
  unfold Rep at r; subst r; unfold pdF; exact .non
 | n,.bool _,v,_,r=>by
  have r:Rep K mg μ H (.bool _) v:=r
  unfold Rep at r; subst r; unfold pdF; exact .bl _
 | n,.int _,v,_,r=>by rw[r.int]; unfold pdF; exact .int _
 | n,.str _,v,_,r=>by rw[r.str]; unfold pdF; exact .str _
 | 0,.tup _,_,h,_=>by cases h
 | 0,.lst _,_,h,_=>by cases h
 | n+1,.tup xs,v,h,r=>by
  obtain ⟨a,vs,e,h1,h2,_⟩:=r.tup
  subst e; unfold pdF
  exact .tup (.inl h1) (dps_of n xs vs h h2)
 | 0,.tpn _,_,h,_=>by cases h
 | n+1,.tpn xs,v,h,r=>by
  have r:Rep K mg μ H (.tpn xs) v:=r
  unfold Rep at r
  obtain ⟨a,vs,o,e,⟨h1,_⟩,nn,h2⟩:=r
  subst e; unfold pdF
  exact .tup (.inl (.inr ⟨o,h1⟩)) (dps_of n xs vs h h2)
 | n+1,.lst xs,v,h,r=>by
  obtain ⟨a,vs,e,h1,h2⟩:=r
  subst e; unfold pdF
  exact .lst (.of h1) (dps_of n xs vs h h2)
 | n,.ro _,_,h,_=>by cases n<;>cases h
 | n,.ty _,_,h,_=>by cases n<;>cases h
 | n,.loc _,_,h,_=>by cases n<;>cases h
 | n,.glo _,_,h,_=>by cases n<;>cases h
 | n,.adr _,_,h,_=>by cases n<;>cases h
 | n,.clo _ _ _ _,_,h,_=>by cases n<;>cases h
 | n,.exn _ _ _ _,_,h,_=>by cases n<;>cases h
theorem dps_of:∀(n:Nat) (ds:List D) (vs:List V),ds.all (dok n)=true→RepAll K mg μ H ds vs→DpAll K H vs (pdFs ds)
 | n,[],vs,_,r=>by unfold RepAll at r; subst r; unfold pdFs; exact .nil
 | n,d::ds,vs,h,r=>by
  unfold RepAll at r
  obtain ⟨v,q,rfl,h1,h2⟩:=r
  rw[List.all_cons,Bool.and_eq_true] at h
  unfold pdFs
  exact .cons (gL n d v h.1 h1.w) (dps_of n ds q h.2 h2)
end
end
/-- == -/
def peq (a b:D):Bool:=PyData.eqv (pdF a) (pdF b)
def dEq:D→D→Option D:=fun a b=>if dok 60 a&&dok 60 b then some (.bool (peq a b)) else none
def dNe:D→D→Option D:=fun a b=>if dok 60 a&&dok 60 b then some (.bool (!peq a b)) else none
section
variable {X:Cx}
theorem gF (hu:X.A.units+64<cLine):OpR X (compareOp .Eq) (rP X.K X.mg dEq):=kH (op_eqD hu) fun μ x y H Q a b d ra rb e q=>by
 unfold dEq at e
 split at e
 ·rename_i h
  cases e
  rw[Bool.and_eq_true] at h
  exact ⟨_,_,gL 60 a x h.1 ra,gL 60 b y h.2 rb,dA h.1,dA h.2,q H _ .rfl (bj _)⟩
 ·cases e
theorem iB (hu:X.A.units+64<cLine):OpR X (compareOp .NotEq) (rP X.K X.mg dNe):=kH (op_neD hu) fun μ x y H Q a b d ra rb e q=>by
 unfold dNe at e
 split at e
 ·rename_i h
  cases e
  rw[Bool.and_eq_true] at h
  exact ⟨_,_,gL 60 a x h.1 ra,gL 60 b y h.2 rb,dA h.1,dA h.2,q H _ .rfl (bj _)⟩
 ·cases e
/-- is None -/
def isN:D→Bool
 | .none=>true
 | _=>false
def dIsN:D→D→Option D
 | a,.none=>some (.bool (isN a))
 | _,_=>none
def mO:D→D→Option D
 | a,.none=>some (.bool (!isN a))
 | _,_=>none
theorem nU {K:PySem.W.Frag} {mg:Str→Option Value} {μ:Mu} {H:Hp} {a:D} {x:V} (r:RepW K mg μ H a x):decide (x=V.non)=isN a:=by
 cases a with
 | none=>have r:Rep K mg μ H .none x:=r; unfold Rep at r; subst r; rfl
 | bool b=>have r:Rep K mg μ H (.bool b) x:=r; unfold Rep at r; subst r; rfl
 | int i=>rw[r.int]; rfl
 | str i=>rw[r.str]; rfl
 | ty n=>have r:Rep K mg μ H (.ty n) x:=r; unfold Rep at r; subst r; rfl
 | tup ds=>obtain ⟨a,vs,e,_⟩:=r.tup; subst e; rfl
 | lst ds=>obtain ⟨a,vs,e,_⟩:=r; subst e; rfl
 | ro ds=>have r:Rep K mg μ H (.ro ds) x:=r; unfold Rep at r; obtain ⟨a,vs,e,_⟩:=r; subst e; rfl
 | loc l=>have r:Rep K mg μ H (.loc l) x:=r; unfold Rep at r; obtain ⟨a,e,_⟩:=r; subst e; rfl
 | glo l=>have r:Rep K mg μ H (.glo l) x:=r; unfold Rep at r; obtain ⟨a,e,_⟩:=r; subst e; rfl
 | adr l=>have r:Rep K mg μ H (.adr l) x:=r; unfold Rep at r; subst r; rfl
 | clo k b q F=>have r:Rep K mg μ H (.clo k b q F) x:=r; unfold Rep at r; obtain ⟨a,_,_,_,_,e,_⟩:=r; subst e; rfl
 | exn a dd ns ds=>have r:Rep K mg μ H (.exn a dd ns ds) x:=r; unfold Rep at r; obtain ⟨vs,e,_⟩:=r; subst e; rfl
 | tpn ds=>have r:Rep K mg μ H (.tpn ds) x:=r; unfold Rep at r; obtain ⟨a,vs,o,e,_⟩:=r; subst e; rfl
theorem o_is:OpR X (compareOp .Is) (rP X.K X.mg dIsN):=kH op_isN fun μ x y H Q a b d ra rb e q=>by
 unfold dIsN at e
 split at e
 ·cases e
  have rb:Rep X.K X.mg μ H .none y:=rb
  unfold Rep at rb
  refine ⟨rb,?_⟩
  rw[nU ra]
  exact q H _ .rfl (bj _)
 ·cases e
theorem o_isnt:OpR X (compareOp .IsNot) (rP X.K X.mg mO):=kH op_notN fun μ x y H Q a b d ra rb e q=>by
 unfold mO at e
 split at e
 ·cases e
  have rb:Rep X.K X.mg μ H .none y:=rb
  unfold Rep at rb
  refine ⟨rb,?_⟩
  rw[nU ra]
  exact q H _ .rfl (bj _)
 ·cases e
end
def dD:D→Option Key
 | .int i=>some (.inl i)
 | .str x=>some (.inr x)
 | _=>none
def iM:List D→Option (List Key)
 | []=>some []
 | d::ds=>match dD d,iM ds with
  | some k,some ks=>some (k::ks)
  | _,_=>none
def gM:D→Option (List Key)
 | .tup ds=>iM ds
 | _=>none
theorem kJ {d:D} {k:Key} (h:dD d=some k):d=dR k:=by
 cases d<;>simp[dD] at h<;>subst h<;>rfl
theorem jh:∀ {ds:List D} {ks:List Key},iM ds=some ks→ds=ks.map dR
 | [],ks,h=>by simp[iM] at h; subst h; rfl
 | d::ds,ks,h=>by
  unfold iM at h
  split at h
  ·rename_i k ks' h1 h2
   cases h
   rw[kJ h1,jh h2]; rfl
  ·cases h
theorem nV {d:D} {k:List Key} (h:gM d=some k):d=fV k:=by
 cases d<;>simp[gM] at h
 rw[jh h]; rfl
theorem iN (k:Key):dD (dR k)=some k:=by cases k<;>rfl
theorem kK:∀ks:List Key,iM (ks.map dR)=some ks
 | []=>rfl
 | k::ks=>by
  show (match dD (dR k),iM (ks.map dR) with|some k,some ks=>some (k::ks)|_,_=>none)=_
  rw[iN,kK ks]
theorem iZ (k:List Key):gM (fV k)=some k:=kK k
def cp (t:Bool) (k:D):Bool:=if t then (gM k).isSome else (dD k).isSome
/-- two keys alike -/
def keq:Bool→D→D→Bool
 | false,a,b=>decide (dD a=dD b)
 | true,a,b=>decide (gM a=gM b)
def iF (t:Bool) (kvs:List (D × D)) (k:D):Option D:=(kvs.find? fun p=>keq t p.1 k).map (·.2)
section
variable {K:PySem.W.Frag} {mg:Str→Option Value} {μ:Mu} {H:Hp}
theorem gq {k:Key} {y:V} (h:Rep K mg μ H (dR k) y):y=kV k:=by
 cases k<;>(unfold dR Rep at h; exact h)
theorem nW:∀ {ks:List Key} {ys:List V},RepAll K mg μ H (ks.map dR) ys→ys=ks.map kV
 | [],ys,h=>by
  have h:RepAll K mg μ H [] ys:=h
  unfold RepAll at h; exact h
 | k::ks,ys,h=>by
  have h:RepAll K mg μ H (dR k::ks.map dR) ys:=h
  unfold RepAll at h
  obtain ⟨v,r,rfl,h1,h2⟩:=h
  rw[gq h1,nW h2]; rfl
theorem kL {k:List Key} {y:V} (h:Rep K mg μ H (fV k) y):∃b,y=.ref b∧H b=some (.tup (k.map kV)):=by
 unfold fV Rep at h
 obtain ⟨a,vs,e,h1,_,h2⟩:=h
 rw[nW h2] at h1
 exact ⟨a,e,h1⟩
/-- what is looked up in rows and in values alike -/
theorem gN {κ:Type} [DecidableEq κ] {f:κ→D} {g:D→D→Bool} (hg:∀a b,g (f a) (f b)=decide (a=b)) (k:κ):∀ {kvs:List (D × D)} {ks:List κ} {vs:List V},kvs.map (·.1)=ks.map f→RepAll K mg μ H (kvs.map (·.2)) vs→
  match (kvs.find? fun p=>g p.1 (f k)).map (·.2) with
  | some d=>∃v,valV (ks.zip vs) k=some v∧Rep K mg μ H d v
  | none=>valV (ks.zip vs) k=none
 | [],ks,vs,h,_=>by
  have:ks=[]:=by cases ks with|nil=>rfl|cons a b=>cases h
  subst this; rfl
 | (a,d)::kvs,[],vs,h,_=>by cases h
 | (a,d)::kvs,k'::ks,vs,h,r=>by
  have r:RepAll K mg μ H (d::kvs.map (·.2)) vs:=r
  unfold RepAll at r
  obtain ⟨v,q,rfl,r1,r2⟩:=r
  injection h with h1 h2
  have h1:a=f k':=h1
  subst h1
  have ih:=gN hg k h2 r2
  rw[List.find?_cons]
  by_cases e:k'=k
  ·subst e
   have:g (f k') (f k')=true:=by rw[hg]; simp
   simp only[this]
   exact ⟨v,by rw[List.zip_cons_cons]; exact valV_pos rfl,r1⟩
  ·have:g (f k') (f k)=false:=by rw[hg]; simp[e]
   simp only[this]
   rw[List.zip_cons_cons]
   rw[valV_neg e]
   exact ih
theorem nX (a b:Key):keq false (dR a) (dR b)=decide (a=b):=by
 show decide (dD (dR a)=dD (dR b))=_
 rw[iN,iN]
 by_cases h:a=b
 ·subst h; simp
 ·simp[h]
theorem si (a b:List Key):keq true (fV a) (fV b)=decide (a=b):=by
 show decide (gM (fV a)=gM (fV b))=_
 rw[iZ,iZ]
 by_cases h:a=b
 ·subst h; simp
 ·simp[h]
theorem nY {k:D} (h:cp false k=true):∃kk,k=dR kk:=by
 unfold cp at h
 obtain ⟨kk,e⟩:=Option.isSome_iff_exists.mp h
 exact ⟨kk,kJ e⟩
theorem sj {k:D} (h:cp true k=true):∃kk,k=fV kk:=by
 unfold cp at h
 obtain ⟨kk,e⟩:=Option.isSome_iff_exists.mp h
 exact ⟨kk,nV e⟩
/-- what a dict holds,locked or not -/
def dE:Option O→Option (Bool × List (D × D))
 | some (.dct t kvs)=>some (t,kvs)
 | some (.fdc t kvs)=>some (t,kvs)
 | _=>none
theorem pM {x:Option O} {t:Bool} {kvs:List (D × D)} (h:dE x=some (t,kvs)):x=some (.dct t kvs)∨x=some (.fdc t kvs):=by
 unfold dE at h
 split at h
 ·cases h; exact .inl rfl
 ·cases h; exact .inr rfl
 ·cases h
theorem u6 {t:Bool} {kvs:List (D × D)} {a:Addr} {k:D} {y:V} (h:RepO K mg μ H (.dct t kvs) a) (hk:cp t k=true) (r:Rep K mg μ H k y) :
  ∃o,DGet H a y o∧match iF t kvs k with
   | some d=>∃v,o=some v∧Rep K mg μ H d v
   | none=>o=none:=by
 cases t with
 | false=>
  obtain ⟨vs,ks,⟨e,q⟩,rs⟩:=h
  obtain ⟨kk,rfl⟩:=nY hk
  rw[gq r]
  exact ⟨_,.k e,gN nX kk q rs⟩
 | true=>
  obtain ⟨vs,ks,⟨e,q⟩,rs⟩:=h
  obtain ⟨kk,rfl⟩:=sj hk
  obtain ⟨b,rfl,hb⟩:=kL r
  exact ⟨_,.t e hb,gN si kk q rs⟩
theorem sk {t:Bool} {kvs:List (D × D)} {a:Addr} {k:D} {y:V} (h:RepO K mg μ H (.fdc t kvs) a) (hk:cp t k=true) (r:Rep K mg μ H k y) :
  ∃o,DGet H a y o∧match iF t kvs k with
   | some d=>∃v,o=some v∧Rep K mg μ H d v
   | none=>o=none:=by
 cases t with
 | false=>
  obtain ⟨vs,ks,⟨⟨od,e⟩,q⟩,rs⟩:=h
  obtain ⟨kk,rfl⟩:=nY hk
  rw[gq r]
  exact ⟨_,.inl ⟨_,kk,.inr ⟨od,e⟩,rfl,rfl⟩,gN nX kk q rs⟩
 | true=>
  obtain ⟨vs,ks,⟨⟨od,e⟩,q⟩,rs⟩:=h
  obtain ⟨kk,rfl⟩:=sj hk
  obtain ⟨b,rfl,hb⟩:=kL r
  exact ⟨_,.inr ⟨_,kk,b,.inr ⟨od,e⟩,rfl,hb,rfl⟩,gN si kk q rs⟩
theorem nZ {S:Sto} {l:Nat} {t:Bool} {kvs:List (D × D)} {a:Addr} {k:D} {y:V} (rs:RelS K mg μ H S) (hμ:μ.l[l]?=some a) (es:dE S[l]?=some (t,kvs)) (hk:cp t k=true) (r:Rep K mg μ H k y) :
  ∃o,DGet H a y o∧match iF t kvs k with
   | some d=>∃v,o=some v∧Rep K mg μ H d v
   | none=>o=none:=by
 rcases pM es with es|es
 ·obtain ⟨ad',h1,ro⟩:=rs.at_ l _ es
  rw[hμ] at h1; cases h1
  exact u6 ro hk r
 ·obtain ⟨ad',h1,ro⟩:=rs.at_ l _ es
  rw[hμ] at h1; cases h1
  exact sk ro hk r
end
/-- whether a is in b -/
def dIn (S:Sto) (a b:D):Option Bool:=match view S b with
 | .lst xs=>if dok 60 a&&dok 60 (.lst xs) then some (xs.any fun z=>peq z a) else none
 | .tup xs=>if dok 60 a&&dok 60 (.tup xs) then some (xs.any fun z=>peq z a) else match view0 S a with
  | .lst ys=>if dok 60 (.lst ys)&&dok 60 (.tup xs) then some (xs.any fun z=>peq z (.lst ys)) else none
  | _=>none
 | .str z=>match a with
  | .str x=>if x.cps.size=1 then some (decide (x.cps.getD 0 0∈z.cps.toList)) else none
  | _=>none
 | .loc l=>match dE S[l]? with
  | some (t,kvs)=>if cp t a then some (iF t kvs a).isSome else none
  | none=>none
 | _=>none
def fIn:Sto→D→D→Option D:=fun S a b=>(dIn S a b).map .bool
def eh:Sto→D→D→Option D:=fun S a b=>(dIn S a b).map fun c=>.bool (!c)
theorem sr {x:Str} (h:x.cps.size=1):x=⟨#[x.cps.getD 0 0]⟩:=by
 obtain ⟨⟨l⟩⟩:=x
 match l,h with
 | [c],_=>rfl
theorem iO (a:D):∀xs:List D,((pdFs xs).any fun z=>PyData.eqv z (pdF a))=xs.any fun z=>peq z a
 | []=>by unfold pdFs; rfl
 | x::xs=>by unfold pdFs; rw[List.any_cons,List.any_cons,iO a xs]; rfl
section
variable {X:Cx}
theorem qh (hu:X.A.units+65<cLine) {pins:List (Addr × Obj)} {s:Shared} {σ:L2.St} {H:Hp} {x y:V} {v u:Value} {Q:Bool→Hp→Prop} {μ:Mu} {S:Sto} {a b:D} {c:Bool} (I:L2.Inv X pins σ H s) (rx:L2.RelV x v) (ry:L2.RelV y u)
  (rs:RelS X.K X.mg μ H S) (ra:Rep X.K X.mg μ H a x) (rb:Rep X.K X.mg μ H b y) (e:dIn S a b=some c) (q:Q c H) (neg:Bool) :
  wpAny (model X.prog X.w) X.A (compareOp (if neg then .NotIn else .In) v u) (fun r s'=>∃H',L2.Inv X pins σ H' s'∧r=.bool (if neg then !c else c)∧Q c H') X.xe s:=by
 unfold dIn at e
 have rw0:=rs.view rb
 split at e
 ·rename_i xs ev
  rw[ev] at rw0
  split at e
  ·rename_i h
   rw[Bool.and_eq_true] at h
   cases e
   have dy:=gL 60 _ y h.2 rw0
   have dx:=gL 60 a x h.1 ra.w
   obtain ⟨as,r1⟩:=Dp.reads I _ x v dx rx
   obtain ⟨bs,r2⟩:=Dp.reads I _ y u dy ry
   unfold pdF at r2
   have hl:=(fr 60 _ h.2).1
   unfold pdF at hl
   have sd:=dA h.1
   cases neg
   ·exact SeqAt.in_list_reads r2 r1 hl (SeqAt.canLay_of_shaped sd) (room_in_shaped sd hu) ⟨H,I,by rw[iO]; rfl,q⟩
   ·exact SeqAt.notIn_list_reads r2 r1 hl (SeqAt.canLay_of_shaped sd) (room_in_shaped sd hu) ⟨H,I,by rw[iO]; rfl,q⟩
  ·cases e
 ·rename_i xs ev
  rw[ev] at rw0
  split at e
  ·rename_i h
   rw[Bool.and_eq_true] at h
   cases e
   have dy:=gL 60 _ y h.2 rw0
   have dx:=gL 60 a x h.1 ra.w
   obtain ⟨as,r1⟩:=Dp.reads I _ x v dx rx
   obtain ⟨bs,r2⟩:=Dp.reads I _ y u dy ry
   unfold pdF at r2
   have hl:=(fr 60 _ h.2).1
   unfold pdF at hl
   have sd:=dA h.1
   cases neg
   ·exact SeqAt.in_tuple_reads r2 r1 hl (SeqAt.canLay_of_shaped sd) (room_in_shaped sd hu) ⟨H,I,by rw[iO]; rfl,q⟩
   ·exact SeqAt.notIn_tuple_reads r2 r1 hl (SeqAt.canLay_of_shaped sd) (room_in_shaped sd hu) ⟨H,I,by rw[iO]; rfl,q⟩
  ·have ra0:=rs.view0 ra
   split at e
   ·rename_i ys eva
    rw[eva] at ra0
    split at e
    ·rename_i h
     rw[Bool.and_eq_true] at h
     cases e
     have dy:=gL 60 _ y h.2 rw0
     have dx:=gL 60 (.lst ys) x h.1 (RepV.vt ra0)
     obtain ⟨as,r1⟩:=Dp.reads I _ x v dx rx
     obtain ⟨bs,r2⟩:=Dp.reads I _ y u dy ry
     unfold pdF at r2
     have hl:=(fr 60 _ h.2).1
     unfold pdF at hl
     have sd:=dA h.1
     cases neg
     ·exact SeqAt.in_tuple_reads r2 r1 hl (SeqAt.canLay_of_shaped sd) (room_in_shaped sd hu) ⟨H,I,by rw[iO]; rfl,q⟩
     ·exact SeqAt.notIn_tuple_reads r2 r1 hl (SeqAt.canLay_of_shaped sd) (room_in_shaped sd hu) ⟨H,I,by rw[iO]; rfl,q⟩
    ·cases e
   ·cases e
 ·rename_i z ev
  rw[ev] at rw0
  split at e
  ·rename_i x'
   split at e
   ·rename_i h
    cases e
    have ex:x=.str x':=ra.w.str
    have ey:=rw0.str
    rw[sr h] at ex
    cases neg
    ·refine thn (op_in_sign pins s σ H x y v u (fun w H'=>w=.bl (decide (x'.cps.getD 0 0∈z.cps.toList))∧H'=H) I rx ry ⟨_,z,ex,ey,rfl,rfl⟩) fun r s' ⟨w,H',I',rr,ew,eH⟩=>?_
     subst ew eH
     exact ⟨_,I',rr,q⟩
    ·refine thn (op_notIn_sign pins s σ H x y v u (fun w H'=>w=.bl (!decide (x'.cps.getD 0 0∈z.cps.toList))∧H'=H) I rx ry ⟨_,z,ex,ey,rfl,rfl⟩) fun r s' ⟨w,H',I',rr,ew,eH⟩=>?_
     subst ew eH
     exact ⟨_,I',rr,q⟩
   ·cases e
  ·cases e
 ·rename_i l ev
  rw[ev] at rw0
  have rw1:Rep X.K X.mg μ H (.loc l) y:=rw0
  unfold Rep at rw1
  obtain ⟨ad,rfl,hμ⟩:=rw1
  split at e
  ·rename_i t kvs es
   split at e
   ·rename_i hk
    cases e
    obtain ⟨o,g,m⟩:=nZ rs hμ es hk ra
    obtain rfl:u=Value.ref ad:=ry
    have ho:o.isSome=(iF t kvs a).isSome:=by
     cases el:iF t kvs a with
     | some d=>rw[el] at m; obtain ⟨v',e',_⟩:=m; rw[e']; rfl
     | none=>rw[el] at m; rw[show o=none from m]; rfl
    cases neg
    ·exact d_in zqO I g rx fun s' I'=>⟨H,I',by rw[ho]; rfl,q⟩
    ·exact d_notIn zqO I g rx fun s' I'=>⟨H,I',by rw[ho]; rfl,q⟩
   ·cases e
  ·cases e
 ·cases e
theorem pN (hu:X.A.units+65<cLine):OpR X (compareOp .In) (rS X.K X.mg fIn):=by
 intro pins s σ H x y v u Q I rx ry ⟨μ,S,a,b,d,rs,ra,rb,e,q⟩
 unfold fIn at e
 obtain ⟨c,e1,e2⟩:=Option.map_eq_some_iff.mp e
 subst e2
 exact thn (qh hu (Q:=fun c' H'=>c'=c∧H'=H) I rx ry rs ra rb e1 ⟨rfl,rfl⟩ false) fun r s' ⟨H',I',er,_,eH⟩=>by
  subst er eH
  exact ⟨.bl c,_,I',rfl,q _ _ .rfl (bj _)⟩
theorem ft (hu:X.A.units+65<cLine):OpR X (compareOp .NotIn) (rS X.K X.mg eh):=by
 intro pins s σ H x y v u Q I rx ry ⟨μ,S,a,b,d,rs,ra,rb,e,q⟩
 unfold eh at e
 obtain ⟨c,e1,e2⟩:=Option.map_eq_some_iff.mp e
 subst e2
 exact thn (qh hu (Q:=fun c' H'=>c'=c∧H'=H) I rx ry rs ra rb e1 ⟨rfl,rfl⟩ true) fun r s' ⟨H',I',er,_,eH⟩=>by
  subst er eH
  exact ⟨.bl (!c),_,I',rfl,q _ _ .rfl (bj _)⟩
end
def fIx (S:Sto) (a k:D):Option D:=match view S a with
 | .lst xs=>match k with
  | .int i=>atI xs i
  | _=>none
 | .tup xs=>match k with
  | .int i=>atI xs i
  | _=>none
 | .ro xs=>match k with
  | .int i=>atI xs i
  | _=>none
 | .str z=>match k with
  | .int i=>if z.length≤1000000 then (atI z.cps.toList i).map fun c=>.str ⟨#[c]⟩ else none
  | _=>none
 | .loc l=>match dE S[l]? with
  | some (t,kvs)=>if cp t k then iF t kvs k else none
  | none=>none
 | _=>none
theorem RepAll.atI {K:PySem.W.Frag} {mg:Str→Option Value} {μ:Mu} {H:Hp} {xs:List D} {vs:List V} {i:Int} {d:D} (r:RepAll K mg μ H xs vs) (h:L2.atI xs i=some d):∃v,L2.atI vs i=some v∧Rep K mg μ H d v:=by
 unfold L2.atI at *
 rw[←r.length]
 obtain ⟨j,h1,h2⟩:=Option.bind_eq_some_iff.mp h
 obtain ⟨v,e1,e2⟩:=r.get h2
 exact ⟨v,by rw[h1]; exact e1,e2⟩
section
variable {X:Cx} {W:WX} {a b:Expr} {pos:Pos} {ma mb:ME}
theorem ix_any (hu:X.A.units+1<cLine):IxR X (rS X.K X.mg fIx):=by
 intro value slice pins s σ H x y v u Q I rx ry ⟨μ,S,a,k,d,rs,ra,rb,e,q⟩ hs
 unfold fIx at e
 have rw0:=rs.view ra
 split at e
 ·rename_i xs ev
  rw[ev] at rw0
  split at e
  ·obtain ⟨p,vs,ep,hp,l⟩:=rw0
   obtain ⟨w,h1,h2⟩:=l.atI e
   exact ix_list value slice pins s σ H x y v u Q I rx ry ⟨p,vs,_,w,ep,rb.w.int,.of hp,h1,q H w .rfl h2⟩ hs
  ·cases e
 ·rename_i xs ev
  rw[ev] at rw0
  split at e
  ·obtain ⟨p,vs,ep,hp,l,_⟩:=rw0.tup
   obtain ⟨w,h1,h2⟩:=l.atI e
   exact ix_tup value slice pins s σ H x y v u Q I rx ry ⟨p,vs,_,w,ep,rb.w.int,.inl hp,h1,q H w .rfl h2⟩ hs
  ·cases e
 ·rename_i xs ev
  rw[ev] at rw0
  split at e
  ·have rw0:Rep X.K X.mg μ H (.ro xs) x:=rw0
   unfold Rep at rw0
   obtain ⟨p,vs,ep,hp,l⟩:=rw0
   obtain ⟨w,h1,h2⟩:=l.atI e
   exact ix_list value slice pins s σ H x y v u Q I rx ry ⟨p,vs,_,w,ep,rb.w.int,hp.sq,h1,q H w .rfl h2⟩ hs
  ·cases e
 ·rename_i z ev
  rw[ev] at rw0
  split at e
  ·split at e
   ·rename_i hz
    obtain ⟨c,h1,h2⟩:=Option.map_eq_some_iff.mp e
    subst h2
    exact ix_str value slice pins s σ H x y v u Q I rx ry ⟨z,_,c,rw0.str,rb.w.int,b6 hz,h1,q H _ .rfl (fM _)⟩ hs
   ·cases e
  ·cases e
 ·rename_i l ev
  rw[ev] at rw0
  have rw1:Rep X.K X.mg μ H (.loc l) x:=rw0
  unfold Rep at rw1
  obtain ⟨ad,rfl,hμ⟩:=rw1
  split at e
  ·rename_i t kvs es
   split at e
   ·rename_i hk
    obtain ⟨o,g,m⟩:=nZ rs hμ es hk rb
    rw[e] at m
    obtain ⟨w,eo,rw'⟩:=m
    subst eo
    obtain rfl:v=Value.ref ad:=rx
    have hT:=dict_typeIs I g
    unfold subscriptTail
    refine wpAny_bind ?_
    rw[getitemInPython_of_ne hT.not_modules]
    refine wpAny_bind (wpAny_specialOf hT PySem.F.slot_dict_getitem.lookup ?_)
    have fin:wpAny (model X.prog X.w) X.A (subscripted slice false (.ref ad) u) (fun r s₃=>wpAny (model X.prog X.w) X.A (letTemporaryGo value (.ref ad) r >>= fun _=>pure r) (EP X pins σ Q) X.xe s₃) X.xe s:=by
     rw[hs]
     exact wpAny_operating (thn (d_getItem hu I g ry fun w' s3 I3 rw2=>(⟨w,H,I3,rw2,q H w .rfl rw'⟩:EP X pins σ Q w' s3)) fun r s₃ h₃=>wpAny_bind (wpAny_letTemporaryGo (wpAny_pure h₃)))
    first
     | exact wpAny_pure (wpAny_bind fin)
     | exact wpAny_bind (wpAny_pure (wpAny_bind fin))
     | exact wpAny_bind fin
   ·cases e
  ·cases e
 ·cases e
theorem aU (hu:X.A.units+1<cLine) (ha:PE X a (tE X W ma)) (hb:PE X b (tE X W mb)) (hs:PlainIx b:=by exact fun _ _=>rfl):PE X (.Subscript a b pos) (tE X W (aJ fIx ma mb)):=
 b4 (pe_ix (ix_any hu) ha hb hs) fun _ _ _ h=>qf h
end
def cM {α:Type} (xs:List α) (lo hi:Option Int):List α:=(xs.drop (HT.sIx xs.length 0 lo)).take (HT.sIx xs.length xs.length hi - HT.sIx xs.length 0 lo)
def jw (d:D) (lo hi:Option Int):Option D:=match d with
 | .lst xs=>some (.lst (cM xs lo hi))
 | .tup xs=>some (.tup (cM xs lo hi))
 | .tpn xs=>some (if HT.sIx xs.length 0 lo=0∧HT.sIx xs.length xs.length hi=xs.length then .tpn xs else .tup (cM xs lo hi))
 | .str z=>if z.length≤1000000 then some (.str (cutS z lo hi)) else none
 | _=>none
abbrev MP:=En→Sto→Res (Option Int)
def pNo:MP:=fun _ S=>.ok none S
def cq (m:ME):MP:=fun env S=>(m env S).bind fun d S=>match d with
 | .int i=>.ok (some i) S
 | _=>.stuck
def kM (m:ME) (ml mh:MP):ME:=fun env S=>(m env S).bind fun d S=>(ml env S).bind fun lo S=>(mh env S).bind fun hi S=>ofO S (jw (view0 S d) lo hi)
section
variable {X:Cx} {W:WX} {e:Expr} {pos p2:Pos} {m:ME} {ml mh:MP} {lo hi:Option Expr}
abbrev tP (X:Cx) (W:WX) (m:MP):L2.St→Hp→(Option Int→Hp→Prop)→Prop:=tM X (fun _ _ a b=>b=a) W m
def PO' (X:Cx) (W:WX) (o:Option Expr) (m:MP):Prop:=PO X o (tP X W m)
theorem eK:PO' X W none pNo:=⟨fun pins s σ H Q I h=>po_none.run pins s σ H Q I (by
 obtain ⟨env,S,μ,rl,o⟩:=h
 exact o μ H none .refl rl.sto rfl)⟩
theorem bt (h:PE X e (tE X W m)):PO' X W (some e) (cq m):=⟨fun pins s σ H Q I w=>(po_some h).run pins s σ H Q I (by
 obtain ⟨env,S,μ,rl,o⟩:=w
 refine ⟨env,S,μ,rl,(Out.bind o).mono fun x H1 ⟨μ1,S1,d,st,rs,r,o1⟩=>?_⟩
 cases d with
 | int i=>unfold Rep at r; exact ⟨i,r,o1 μ1 H1 _ .refl rs rfl⟩
 | _=>exact o1.elim)⟩
theorem sv:SlR X (fun x lo hi H Q=>∃μ S d d',RelS X.K X.mg μ H S∧RepV X.K X.mg μ H d x∧jw d lo hi=some d'∧∀H' v,Sm H H'→Rep X.K X.mg μ H' d' v→Q v H'):=by
 intro pins s σ H x v vl vu lo hi sl Q I rx hs pl pu ⟨μ,S,d,d',rs,r,e,q⟩
 unfold jw at e
 split at e
 ·cases e
  obtain ⟨a,vs,ea,ha,l⟩:=r
  refine sl_list pins s σ H x v vl vu lo hi sl Q I rx hs pl pu ⟨a,vs,ea,.of ha,fun p hp=>q _ _ (.upd hp) ?_⟩
  refine bz rs hp ?_
  unfold cM cutV
  rw[←l.length]
  exact (l.drop _).take _
 ·rename_i xs
  cases e
  have r':Rep X.K X.mg μ H (.tup xs) x:=r
  obtain ⟨a,vs,ea,ha,l,na⟩:=r.vt
  subst ea
  have el:cutV vs lo hi=(vs.drop (HT.sIx xs.length 0 lo)).take (HT.sIx xs.length xs.length hi - HT.sIx xs.length 0 lo):=by unfold cutV; rw[←l.length]
  refine sl_tupA pins s σ H _ v vl vu lo hi sl Q I rx hs pl pu ⟨a,vs,rfl,.inl ha,fun hw=>q H _ .rfl ?_,fun _ p hp=>q _ _ (.upd hp) ?_⟩
  ·have:cM xs lo hi=xs:=by
    unfold cM
    rw[←l.length] at hw
    rw[hw.1,hw.2]; simp
   rw[this]
   exact r'
  ·refine bh rs hp ?_
   rw[el]
   unfold cM
   exact (l.drop _).take _
 ·rename_i xs
  cases e
  have r':Rep X.K X.mg μ H (.tpn xs) x:=r
  obtain ⟨a,vs,ea,ha,l,na⟩:=r.vt
  subst ea
  have el:cutV vs lo hi=(vs.drop (HT.sIx xs.length 0 lo)).take (HT.sIx xs.length xs.length hi - HT.sIx xs.length 0 lo):=by unfold cutV; rw[←l.length]
  refine sl_tupA pins s σ H _ v vl vu lo hi sl Q I rx hs pl pu ⟨a,vs,rfl,.inl ha,fun hw=>q H _ .rfl ?_,fun hw p hp=>q _ _ (.upd hp) ?_⟩
  ·rw[←l.length] at hw
   rw[if_pos hw]
   exact r'
  ·rw[←l.length] at hw
   rw[if_neg hw]
   refine bh rs hp ?_
   rw[el]
   unfold cM
   exact (l.drop _).take _
 ·split at e
  ·rename_i hz
   cases e
   exact sl_str pins s σ H x v vl vu lo hi sl Q I rx hs pl pu ⟨_,RepV.str r,b6 hz,q H _ .rfl (fM _)⟩
  ·cases e
 ·cases e
theorem gO (he:PE X e (tE X W m)) (hl:PO' X W lo ml) (hh:PO' X W hi mh):PE X (.Subscript e (.Slice lo hi none p2) pos) (tE X W (kM m ml mh)):=
 b4 (pe_slice sv he hl hh) fun σ H Q ⟨env,S,μ,rl,o⟩=>by
  refine ⟨env,S,μ,rl,(Out.bind o).mono fun x H1 ⟨μ1,S1,d,st,rs,r,o1⟩=>?_⟩
  refine ⟨env,S1,μ1,⟨rl.env.step st,rs⟩,(Out.bind o1).mono fun lo' H2 ⟨μ2,S2,dl,st2,rs2,rl2,o2⟩=>?_⟩
  subst rl2
  refine ⟨env,S2,μ2,⟨(rl.env.step st).step st2,rs2⟩,(Out.bind o2).mono fun hi' H3 ⟨μ3,S3,dh,st3,rs3,rh3,o3⟩=>?_⟩
  subst rh3
  cases e:jw (view0 S3 d) lo' hi' with
  | none=>rw[e] at o3; exact o3.elim
  | some d'=>
   rw[e] at o3
   exact ⟨μ3,S3,_,d',rs3,rs3.view0 (Rep.step st3 _ _ (Rep.step st2 _ _ r)),e,fun H' v sm rr=>o3 μ3 H' v (.of_sm sm) (rs3.sm sm) rr⟩
end
def eC (d:D):ME:=fun _ S=>.ok d S
def eV (i:Nat):ME:=fun env S=>match env[i]? with
 | some (some d)=>.ok d S
 | _=>.stuck
section
variable {X:Cx} {W:WX} {a b c e:Expr} {pos:Pos} {m ma mb mc:ME} {ta tb tc:MT} {rest:List Expr}
theorem ng {te:TE} {d:D} (h:PE X e te) (i:∀σ H Q μ S,RelS X.K X.mg μ H S→(∀v,Rep X.K X.mg μ H d v→Q v H)→te σ H Q):PE X e (tE X W (eC d)):=
 b4 h fun σ H Q ⟨env,S,μ,rl,o⟩=>i σ H Q μ S rl.sto fun v r=>o μ H v .refl rl.sto r
theorem aD {i j}:PE X (.Constant (.int i) j pos) (tE X W (eC (.int i))):=ng pe_int fun _ _ _ _ _ _ q=>q _ (bK _)
theorem bX {i j}:PE X (.Constant (.bool i) j pos) (tE X W (eC (.bool i))):=ng pe_bl fun _ _ _ _ _ _ q=>q _ (bj _)
theorem dH {j}:PE X (.Constant .none j pos) (tE X W (eC .none)):=ng pe_non fun _ _ _ _ _ _ q=>q _ iX
theorem ak {i j}:PE X (.Constant (.str i) j pos) (tE X W (eC (.str i))):=ng pe_str fun _ _ _ _ _ _ q=>q _ (fM _)
theorem aC (i:Nat) {x:Str} (hN:X.N[i]?=some x:=by rfl) (hv:Vis X.env.scope x:=by first|exact Or.inl rfl|exact Or.inr (Or.inl rfl)|exact Or.inr (Or.inr rfl)) (hd:(x == ("__debug__":Str))=false:=by decide)
  (hcd:(x == ("__classdict__":Str))=false:=by decide):PE X (.Name x pos) (tE X W (eV i)):=
 b4 (pe_var hN hv hd hcd) fun σ H Q ⟨env,S,μ,rl,o⟩=>by
  unfold eV at o
  cases e:env[i]? with
  | none=>simp only[e] at o; exact o.elim
  | some w=>
   cases w with
   | none=>simp only[e] at o; exact o.elim
   | some d=>
    simp only[e] at o
    obtain ⟨v,h1,h2⟩:=rl.env.at_ i d e
    exact ⟨v,h1,o μ H v .refl rl.sto h2⟩
theorem u7 {x:Str} {i:Int} {t} (hg:Gl X x) (hm:X.mg x=some (.int i t)) (hd:(x == ("__debug__":Str))=false:=by decide):PE X (.Name x pos) (tE X W (eC (.int i))):=
 ng (pe_glob (v:=.int i) hg hm ⟨_,rfl⟩ hd) fun _ _ _ _ _ _ q=>q _ (bK _)
theorem u8 {x:Str} {i:Str} {t} (hg:Gl X x) (hm:X.mg x=some (.str i t)) (hd:(x == ("__debug__":Str))=false:=by decide):PE X (.Name x pos) (tE X W (eC (.str i))):=
 ng (pe_glob (v:=.str i) hg hm ⟨_,rfl⟩ hd) fun _ _ _ _ _ _ q=>q _ (fM _)
theorem cJ {x:Str} {n:String} (hg:Gl X x) (hm:X.mg x=none) (hv:bootBuiltins x=some (.type n)) (hn:x≠"__name__":=by decide) (hd:(x == ("__debug__":Str))=false:=by decide):PE X (.Name x pos) (tE X W (eC (.ty n))):=
 ng (pe_bltn (v:=.ty n) hg hm hv rfl hn hd) fun _ _ _ _ _ _ q=>q _ (by unfold Rep; rfl)
theorem bn {x:Str} {a:Addr} (hg:Gl X x) (hm:X.mg x=some (.ref a)) (hd:(x == ("__debug__":Str))=false:=by decide):PE X (.Name x pos) (tE X W (eC (.glo x))):=
 ng (pe_glob (v:=.ref a) hg hm rfl hd) fun _ _ _ _ _ _ q=>q _ (by unfold Rep; exact ⟨a,rfl,hm⟩)
def fL (S:Sto) (d:D):Option Bool:=match view S d with
 | .none=>some false
 | .bool b=>some b
 | .int i=>some (i != 0)
 | .str x=>if x.length≤1000000 then some ((x.length:Int) != 0) else none
 | .tup xs=>some (!xs.isEmpty)
 | .lst xs=>some (!xs.isEmpty)
 | .ro xs=>some (!xs.isEmpty)
 | .loc l=>match S[l]? with
  | some (.dct false kvs)=>some (!kvs.isEmpty)
  | _=>none
 | _=>none
theorem gQ {K:PySem.W.Frag} {mg:Str→Option Value} {μ:Mu} {H:Hp} {xs:List D} {vs:List V} (r:RepAll K mg μ H xs vs):xs.isEmpty=vs.isEmpty:=by
 cases xs with
 | nil=>unfold RepAll at r; subst r; rfl
 | cons a b=>unfold RepAll at r; obtain ⟨v,q,rfl,_⟩:=r; rfl
theorem mP {K:PySem.W.Frag} {mg:Str→Option Value} {μ:Mu} {H:Hp} {S:Sto} {d:D} {x:V} {k:Bool} (rs:RelS K mg μ H S) (r:Rep K mg μ H d x) (e:fL S d=some k):TruV K x H k:=by
 unfold fL at e
 have w:=rs.view r
 split at e
 ·rename_i ev
  rw[ev] at w; cases e
  have w:Rep K mg μ H .none x:=w
  unfold Rep at w; subst w; rfl
 ·rename_i ev
  rw[ev] at w; cases e
  have w:Rep K mg μ H (.bool _) x:=w
  unfold Rep at w; subst w; rfl
 ·rename_i ev
  rw[ev] at w; cases e
  rw[w.int]; rfl
 ·rename_i ev
  rw[ev] at w
  split at e
  ·rename_i hz
   cases e
   rw[w.str]; exact ⟨b6 hz,rfl⟩
  ·cases e
 ·rename_i ev
  rw[ev] at w; cases e
  obtain ⟨a,vs,rfl,h,l,_⟩:=w.tup
  exact .inr (.inl ⟨vs,.inl h,by rw[gQ l]⟩)
 ·rename_i ev
  rw[ev] at w; cases e
  obtain ⟨a,vs,rfl,h,l⟩:=w
  exact .inl ⟨vs,.of h,by rw[gQ l]⟩
 ·rename_i ev
  rw[ev] at w; cases e
  have w:Rep K mg μ H (.ro _) x:=w
  unfold Rep at w
  obtain ⟨a,vs,rfl,h,l⟩:=w
  exact .inl ⟨vs,h.sq,by rw[gQ l]⟩
 ·rename_i l ev
  rw[ev] at w
  have w:Rep K mg μ H (.loc l) x:=w
  unfold Rep at w
  obtain ⟨a,rfl,hμ⟩:=w
  split at e
  ·rename_i kvs es
   cases e
   obtain ⟨a',h1,vs,ks,⟨h2,hk⟩,l⟩:=rs.at_ _ _ es
   rw[hμ] at h1; cases h1
   refine .inr (.inr ⟨_,h2,?_⟩)
   cases kvs with
   | nil=>
    cases ks with
    | nil=>rfl
    | cons a b=>cases hk
   | cons p q=>
    cases ks with
    | nil=>cases hk
    | cons a b=>
     have l:RepAll K mg μ H (p.2::q.map (·.2)) vs:=l
     unfold RepAll at l
     obtain ⟨v,r,rfl,_⟩:=l
     rfl
  ·cases e
 ·cases e
def b7 (m:ME):MT:=fun env S=>(m env S).bind fun d S=>ofO S (fL S d)
theorem t_tru {σ:L2.St} {H:Hp} {Q:Bool→Hp→Prop} (h:tT X W (b7 m) σ H Q):tE X W m σ H fun x H'=>∃k,TruV X.K x H' k∧Q k H':=by
 obtain ⟨env,S,μ,rl,o⟩:=h
 refine ⟨env,S,μ,rl,(Out.bind o).mono fun x H1 ⟨μ1,S1,d,st,rs,r,o1⟩=>?_⟩
 cases e:fL S1 d with
 | none=>rw[e] at o1; exact o1.elim
 | some k=>rw[e] at o1; exact ⟨k,mP rs r e,o1 μ1 H1 k .refl rs rfl⟩
theorem ao (h:PE X a (tE X W m)) (he:∀whole,isTrue a X.env whole=(do let v ←whole; standAt a.pos; holding [v] (truthy v)):=by exact fun _=>rfl):PT X a (tT X W (b7 m)):=
 qe (pt_truth h he) fun σ H Q w=>t_tru w
def nh (ma mb:MT):MT:=fun env S=>(ma env S).bind fun c S=>if c=true then mb env S else .ok false S
def cF (ma mb:MT):MT:=fun env S=>(ma env S).bind fun c S=>if c=true then .ok true S else mb env S
def az (ma:MT):MT:=fun env S=>(ma env S).bind fun c S=>.ok (!c) S
theorem qi (h:PT X a (tT X W ta)):PW X (.BoolOp .And [a] pos) (tT X W ta):=pw_and1 h
theorem bQ (h:PT X a (tT X W ta)):PW X (.BoolOp .Or [a] pos) (tT X W ta):=pw_or1 h
theorem sy (ha:PT X a (tT X W ta)) (hb:PW X (.BoolOp .And (b::rest) pos) (tT X W tb)):PW X (.BoolOp .And (a::b::rest) pos) (tT X W (nh ta tb)):=
 pw_to (pw_and ha hb) fun σ H Q ⟨env,S,μ,rl,o⟩=>⟨env,S,μ,rl,(Out.bind o).mono fun x H1 ⟨μ1,S1,d,st,rs,r,o1⟩=>by
  subst r
  cases x with
  | true=>exact ⟨env,S1,μ1,⟨rl.env.step st,rs⟩,o1⟩
  | false=>exact o1 μ1 H1 _ .refl rs rfl⟩
theorem bS (ha:PT X a (tT X W ta)) (hb:PW X (.BoolOp .Or (b::rest) pos) (tT X W tb)):PW X (.BoolOp .Or (a::b::rest) pos) (tT X W (cF ta tb)):=
 pw_to (pw_or ha hb) fun σ H Q ⟨env,S,μ,rl,o⟩=>⟨env,S,μ,rl,(Out.bind o).mono fun x H1 ⟨μ1,S1,d,st,rs,r,o1⟩=>by
  subst r
  cases x with
  | false=>exact ⟨env,S1,μ1,⟨rl.env.step st,rs⟩,o1⟩
  | true=>exact o1 μ1 H1 _ .refl rs rfl⟩
theorem bI {op es} (h:PW X (.BoolOp op es pos) (tT X W ta)):PT X (.BoolOp op es pos) (tT X W ta):=h.pt
theorem am (ha:PT X a (tT X W ta)):PT X (.UnaryOp .Not a pos) (tT X W (az ta)):=
 qe (pt_not ha) fun σ H Q ⟨env,S,μ,rl,o⟩=>⟨env,S,μ,rl,(Out.bind o).mono fun x H1 ⟨μ1,S1,d,st,rs,r,o1⟩=>by
  subst r
  exact o1 μ1 H1 _ .refl rs rfl⟩
def gR (ma mb:ME):ME:=fun env S=>(ma env S).bind fun d S=>(ofO S (fL S d)).bind fun c S=>if c=true then mb env S else .ok d S
def eOr (ma mb:ME):ME:=fun env S=>(ma env S).bind fun d S=>(ofO S (fL S d)).bind fun c S=>if c=true then .ok d S else mb env S
def eNot (ma:ME):ME:=fun env S=>(ma env S).bind fun d S=>(ofO S (fL S d)).bind fun c S=>.ok (.bool (!c)) S
def eIf (tc:MT) (ma mb:ME):ME:=fun env S=>(tc env S).bind fun c S=>if c=true then ma env S else mb env S
theorem gS {op} (h:PE X a (tE X W m)):PE X (.BoolOp op [a] pos) (tE X W m):=pe_one h
theorem dI (ha:PE X a (tE X W ma)) (hb:PE X (.BoolOp .And (b::rest) pos) (tE X W mb)):PE X (.BoolOp .And (a::b::rest) pos) (tE X W (gR ma mb)):=
 b4 (pe_andT ha hb) fun σ H Q ⟨env,S,μ,rl,o⟩=>⟨env,S,μ,rl,(Out.bind o).mono fun x H1 ⟨μ1,S1,d,st,rs,r,o1⟩=>by
  cases e:fL S1 d with
  | none=>rw[e] at o1; exact o1.elim
  | some k=>
   rw[e] at o1
   refine ⟨k,mP rs r e,?_⟩
   cases k with
   | true=>exact ⟨env,S1,μ1,⟨rl.env.step st,rs⟩,o1⟩
   | false=>exact o1 μ1 H1 _ .refl rs r⟩
theorem sz (ha:PE X a (tE X W ma)):PE X (.UnaryOp .Not a pos) (tE X W (eNot ma)):=
 b4 (pe_notT ha) fun σ H Q ⟨env,S,μ,rl,o⟩=>⟨env,S,μ,rl,(Out.bind o).mono fun x H1 ⟨μ1,S1,d,st,rs,r,o1⟩=>by
  cases e:fL S1 d with
  | none=>rw[e] at o1; exact o1.elim
  | some k=>
   rw[e] at o1
   exact ⟨k,mP rs r e,o1 μ1 H1 _ .refl rs (bj _)⟩⟩
theorem lm (hc:PT X c (tT X W tc)) (ha:PE X a (tE X W ma)) (hb:PE X b (tE X W mb)):PE X (.IfExp c a b pos) (tE X W (eIf tc ma mb)):=
 b4 (pe_ifExp hc ha hb) fun σ H Q ⟨env,S,μ,rl,o⟩=>⟨env,S,μ,rl,(Out.bind o).mono fun x H1 ⟨μ1,S1,d,st,rs,r,o1⟩=>by
  subst r
  cases x with
  | true=>exact ⟨env,S1,μ1,⟨rl.env.step st,rs⟩,o1⟩
  | false=>exact ⟨env,S1,μ1,⟨rl.env.step st,rs⟩,o1⟩⟩
def eNeg (ma:ME):ME:=fun env S=>(ma env S).bind fun d S=>match d with
 | .int i=>.ok (.int (-i)) S
 | _=>.stuck
theorem sE_neg (ha:PE X a (tE X W ma)):PE X (.UnaryOp .USub a pos) (tE X W (eNeg ma)):=
 b4 (pe_un un_neg ha) fun σ H Q ⟨env,S,μ,rl,o⟩=>⟨env,S,μ,rl,(Out.bind o).mono fun x H1 ⟨μ1,S1,d,st,rs,r,o1⟩=>by
  cases d with
  | int i=>unfold Rep at r; exact ⟨i,r,o1 μ1 H1 _ .refl rs (bK _)⟩
  | _=>exact o1.elim⟩
def gT (f g:Sto→D→D→Option D) (ma mb mc:ME):ME:=fun env S=>(ma env S).bind fun a S=>(mb env S).bind fun b S=>match f S a b with
 | some (.bool true)=>(mc env S).bind fun c S=>ofO S (g S b c)
 | some (.bool false)=>.ok (.bool false) S
 | _=>.stuck
theorem qj {f g:Sto→D→D→Option D} {σ:L2.St} {H:Hp} {Q:VK} (h:tE X W (gT f g ma mb mc) σ H Q):tChain (rS X.K X.mg f) (rS X.K X.mg g) (tE X W ma) (tE X W mb) (tE X W mc) σ H Q:=by
 obtain ⟨env,S,μ,rl,o⟩:=h
 refine ⟨env,S,μ,rl,(Out.bind o).mono fun x H1 ⟨μ1,S1,da,st,rs,ra,o1⟩=>?_⟩
 refine ⟨env,S1,μ1,⟨rl.env.step st,rs⟩,(Out.bind o1).mono fun y H2 ⟨μ2,S2,db,st2,rs2,rb,o2⟩=>?_⟩
 cases e:f S2 da db with
 | none=>simp only[e] at o2; exact o2.elim
 | some d=>
  simp only[e] at o2
  refine ⟨μ2,S2,_,_,d,rs2,Rep.step st2 _ _ ra,rb,e,fun H' v sm r=>?_⟩
  cases d with
  | bool k=>
   unfold Rep at r
   refine ⟨k,r,?_⟩
   have st3:Step μ2 H2 μ2 H':=.of_sm sm
   cases k with
   | false=>exact o2 μ2 H' _ st3 (rs2.sm sm) (bj _)
   | true=>
    refine ⟨env,S2,μ2,⟨((rl.env.step st).step st2).step st3,rs2.sm sm⟩,(Out.bind (Out.of_step st3 o2)).mono fun z H4 ⟨μ4,S4,dc,st4,rs4,rc,o4⟩=>?_⟩
    cases e2:g S4 db dc with
    | none=>rw[e2] at o4; exact o4.elim
    | some d2=>
     rw[e2] at o4
     exact ⟨μ4,S4,_,_,d2,rs4,Rep.step st4 _ _ (Rep.step st3 _ _ rb),rc,e2,fun H5 v5 sm5 r5=>o4 μ4 H5 v5 (.of_sm sm5) (rs4.sm sm5) r5⟩
  | _=>exact o2.elim
theorem nj {op op':CmpOp} {f g:Sto→D→D→Option D} (ho:OpR X (compareOp op) (rS X.K X.mg f)) (ho':OpR X (compareOp op') (rS X.K X.mg g)) (ha:PE X a (tE X W ma)) (hb:PE X b (tE X W mb)) (hc:PE X c (tE X W mc))
  (hm:lastMarks [op,op'] [b,c]=false:=by with_unfolding_all rfl):PE X (.Compare a [op,op'] [b,c] pos) (tE X W (gT f g ma mb mc)):=b4 (pe_chain ho ho' ha hb hc hm) fun _ _ _ h=>qj h
theorem tA {op op':CmpOp} {f g:Sto→D→D→Option D} (ho:OpR X (compareOp op) (rS X.K X.mg f)) (ho':OpR X (compareOp op') (rS X.K X.mg g)) (ha:PE X a (tE X W ma)) (hb:PE X b (tE X W mb)) (hc:PE X c (tE X W mc))
  (hm:lastMarks [op,op'] [b,c]=false:=by with_unfolding_all rfl):PT X (.Compare a [op,op'] [b,c] pos) (tT X W (tOf (gT f g ma mb mc))):=qe (pt_chain ho ho' ha hb hc hm) fun σ H Q h=>by
  obtain ⟨env,S,μ,rl,o⟩:=t_of h
  exact qj ⟨env,S,μ,rl,o⟩
def aH:MA:=fun _ S=>.ok [] S
def aB (m:ME) (r:MA):MA:=fun env S=>(m env S).bind fun d S=>(r env S).bind fun ds S=>.ok (d::ds) S
theorem aE:PA X [] (tAs X W aH):=pa_to pa_nil fun σ H Q ⟨env,S,μ,rl,o⟩=>o μ H [] .refl rl.sto .nil
theorem aA {es:List Expr} {r:MA} (he:PE X e (tE X W m)) (hr:PA X es (tAs X W r)) (hs:starEach (e::es) X.env=(false,eval e X.env)::starEach es X.env:=by rfl):PA X (e::es) (tAs X W (aB m r)):=
 pa_to (pa_cons he hr hs) fun σ H Q ⟨env,S,μ,rl,o⟩=>⟨env,S,μ,rl,(Out.bind o).mono fun x H1 ⟨μ1,S1,d,st,rs,rd,o1⟩=>
  ⟨env,S1,μ1,⟨rl.env.step st,rs⟩,(Out.bind o1).mono fun xs H2 ⟨μ2,S2,ds,st2,rs2,rds,o2⟩=>o2 μ2 H2 _ .refl rs2 (.cons (Rep.step st2 _ _ rd) rds)⟩⟩
def cN (r:MA):ME:=fun env S=>(r env S).bind fun ds S=>if ds.length≤1000000 then .ok (.tup ds) S else .stuck
def cO (r:MA):ME:=fun env S=>(r env S).bind fun ds S=>if ds.length≤1000000 then .ok (.lst ds) S else .stuck
def lp (r:MA):ME:=fun env S=>(r env S).bind fun ds S=>if ds.length≤1000000 then .ok (.loc S.length) (S++[.lst ds]) else .stuck
variable {es:List Expr} {r:MA}
theorem av {x1} (h:PA X es (tAs X W r)):PE X (.Tuple es x1 pos) (tE X W (cN r)):=b4 (pe_tup h) fun σ H Q ⟨env,S,μ,rl,o⟩=>⟨env,S,μ,rl,(Out.bind o).mono fun xs H1 ⟨μ1,S1,ds,st,rs,rd,o1⟩=>by
 split at o1
 ·rename_i hz
  exact ⟨by rw[←rd.length]; exact b6 hz,fun p hp=>o1 μ1 _ _ (.of_sm (.upd hp)) (rs.sm (.upd hp)) (bh rs hp rd)⟩
 ·exact o1.elim⟩
theorem bD (h:PA X es (tAs X W r)):PE X (.List es pos) (tE X W (cO r)):=b4 (pe_lst h) fun σ H Q ⟨env,S,μ,rl,o⟩=>⟨env,S,μ,rl,(Out.bind o).mono fun xs H1 ⟨μ1,S1,ds,st,rs,rd,o1⟩=>by
 split at o1
 ·rename_i hz
  exact ⟨by rw[←rd.length]; exact b6 hz,fun p hp=>o1 μ1 _ _ (.of_sm (.upd hp)) (rs.sm (.upd hp)) (bz rs hp rd)⟩
 ·exact o1.elim⟩
end
theorem mQ {K:PySem.W.Frag} {mg:Str→Option Value} {μ:Mu} {H:Hp} {S:Sto} {p:Addr} {ho:HO} {o:O} (rs:RelS K mg μ H S) (hp:H p=none) (r:RepO K mg (μ.push p) (upd H p ho) o p) :
  Step μ H (μ.push p) (upd H p ho)∧RelS K mg (μ.push p) (upd H p ho) (S++[o])∧Rep K mg (μ.push p) (upd H p ho) (.loc S.length) (.ref p):=by
 refine ⟨.new_loc hp,rs.push hp r,?_⟩
 unfold Rep
 exact ⟨p,rfl,by rw[rs.len]; simp[Mu.push]⟩
theorem u9 {K:PySem.W.Frag} {mg:Str→Option Value} {μ:Mu} {H:Hp} {S:Sto} {p:Addr} {ds:List D} {vs:List V} (rs:RelS K mg μ H S) (hp:H p=none) (r:RepAll K mg μ H ds vs) :
  Step μ H (μ.push p) (upd H p (.lst vs))∧RelS K mg (μ.push p) (upd H p (.lst vs)) (S++[.lst ds])∧Rep K mg (μ.push p) (upd H p (.lst vs)) (.loc S.length) (.ref p):=
 mQ rs hp ⟨vs,upd_same,RepAll.step (.new_loc hp) _ _ r⟩
section
variable {X:Cx} {W:WX} {pos:Pos} {es:List Expr} {r:MA}
theorem mR (h:PA X es (tAs X W r)):PE X (.List es pos) (tE X W (lp r)):=b4 (pe_lst h) fun σ H Q ⟨env,S,μ,rl,o⟩=>⟨env,S,μ,rl,(Out.bind o).mono fun xs H1 ⟨μ1,S1,ds,st,rs,rd,o1⟩=>by
 split at o1
 ·rename_i hz
  refine ⟨by rw[←rd.length]; exact b6 hz,fun p hp=>?_⟩
  obtain ⟨a,b,c⟩:=u9 rs hp rd
  exact o1 _ _ _ a b c
 ·exact o1.elim⟩
/-- {} -/
def eDct (t:Bool):ME:=fun _ S=>.ok (.loc S.length) (S++[.dct t []])
end
inductive RS where
 | next (env:En) (S:Sto)|brk (env:En) (S:Sto)|cont (env:En) (S:Sto)|ret (d:D) (S:Sto)|exc (e:XV) (env:En) (S:Sto)|stuck
abbrev MS:=En→Sto→RS
abbrev MG:=D→En→Sto→Option (En × Sto)
def Res.rs {α:Type} (env:En):Res α→(α→Sto→RS)→RS
 | .ok a S,k=>k a S
 | .exc e S,_=>.exc e env S
 | .stuck,_=>.stuck
def RS.andThen:RS→(En→Sto→RS)→RS
 | .next env S,k=>k env S
 | .brk env S,_=>.brk env S
 | .cont env S,_=>.cont env S
 | .ret d S,_=>.ret d S
 | .exc e env S,_=>.exc e env S
 | .stuck,_=>.stuck
section
variable (K:PySem.W.Frag) (mg:Str→Option Value)
def OutS (W:WX) (μ:Mu) (H:Hp) (D:Ends):RS→Prop
 | .next env S=>∀μ' H' σ',Step μ H μ' H'→RelE K mg μ' H' env σ'→RelS K mg μ' H' S→D.nx σ' H'
 | .brk env S=>∀μ' H' σ',Step μ H μ' H'→RelE K mg μ' H' env σ'→RelS K mg μ' H' S→D.bk σ' H'
 | .cont env S=>∀μ' H' σ',Step μ H μ' H'→RelE K mg μ' H' env σ'→RelS K mg μ' H' S→D.ct σ' H'
 | .ret d S=>∀μ' H' v,Step μ H μ' H'→RelS K mg μ' H' S→Rep K mg μ' H' d v→D.rt v H'
 | .exc e env S=>∀μ' H' σ' cls dd,Step μ H μ' H'→RelE K mg μ' H' env σ'→RelS K mg μ' H' S→RepX K mg μ' H' e cls dd→W cls dd σ' H'
 | .stuck=>False
end
section
variable {K:PySem.W.Frag} {mg:Str→Option Value} {α β:Type} {W:WX} {σ:L2.St} {μ μ1:Mu} {H H1:Hp} {R:Mu→Hp→α→β→Prop} {D D':Ends} {r:RS} {env:En}
theorem OutS.of_step (st:Step μ H μ1 H1) (o:OutS K mg W μ H D r):OutS K mg W μ1 H1 D r:=by
 cases r with
 | next e S=>exact fun μ' H' σ' s=>o μ' H' σ' (st.trans s)
 | brk e S=>exact fun μ' H' σ' s=>o μ' H' σ' (st.trans s)
 | cont e S=>exact fun μ' H' σ' s=>o μ' H' σ' (st.trans s)
 | ret e S=>exact fun μ' H' σ' s=>o μ' H' σ' (st.trans s)
 | exc e v S=>exact fun μ' H' σ' c d s=>o μ' H' σ' c d (st.trans s)
 | stuck=>exact o
theorem OutS.mono (o:OutS K mg W μ H D r) (h1:∀σ H,D.nx σ H→D'.nx σ H) (h2:∀σ H,D.bk σ H→D'.bk σ H) (h3:∀σ H,D.ct σ H→D'.ct σ H) (h4:∀v H,D.rt v H→D'.rt v H):OutS K mg W μ H D' r:=by
 cases r with
 | next e S=>exact fun μ' H' σ' s t u=>h1 _ _ (o μ' H' σ' s t u)
 | brk e S=>exact fun μ' H' σ' s t u=>h2 _ _ (o μ' H' σ' s t u)
 | cont e S=>exact fun μ' H' σ' s t u=>h3 _ _ (o μ' H' σ' s t u)
 | ret e S=>exact fun μ' H' σ' s t u=>h4 _ _ (o μ' H' σ' s t u)
 | exc e v S=>exact o
 | stuck=>exact o
theorem OutS.andThen {k:En→Sto→RS} (o:OutS K mg W μ H D (r.andThen k)) :
  OutS K mg W μ H { D with nx:=fun σ1 H1=>∃μ1 env1 S1,Step μ H μ1 H1∧RelE K mg μ1 H1 env1 σ1∧RelS K mg μ1 H1 S1∧OutS K mg W μ1 H1 D (k env1 S1) } r:=by
 cases r with
 | next e S=>exact fun μ' H' σ' s t u=>⟨μ',e,S,s,t,u,OutS.of_step s o⟩
 | brk e S=>exact o
 | cont e S=>exact o
 | ret e S=>exact o
 | exc e v S=>exact o
 | stuck=>exact o
theorem OutS.rs {x:Res α} {k:α→Sto→RS} (re:RelE K mg μ H env σ) (o:OutS K mg W μ H D (x.rs env k)) :
  Out K mg W σ μ H R (fun b H1=>∃μ1 S1 a,Step μ H μ1 H1∧RelS K mg μ1 H1 S1∧R μ1 H1 a b∧OutS K mg W μ1 H1 D (k a S1)) x:=by
 cases x with
 | ok a S=>exact fun μ' H' b s t u=>⟨μ',S,a,s,t,u,OutS.of_step s o⟩
 | exc e S=>exact fun μ' H' c d s t u=>o μ' H' σ c d s (re.step s) t u
 | stuck=>exact o
end
def tS (X:Cx) (W:WX) (m:MS):TS:=fun D σ H=>∃env S μ,Rl X.K X.mg μ H env σ S∧OutS X.K X.mg W μ H D (m env S)
def OutO (K:PySem.W.Frag) (mg:Str→Option Value) (μ:Mu) (H:Hp) (Q:L2.St→Hp→Prop):Option (En × Sto)→Prop
 | some (e,S)=>∀μ' H' σ',Step μ H μ' H'→RelE K mg μ' H' e σ'→RelS K mg μ' H' S→Q σ' H'
 | none=>False
theorem OutO.of_step {K:PySem.W.Frag} {mg:Str→Option Value} {μ μ1:Mu} {H H1:Hp} {Q:L2.St→Hp→Prop} {r:Option (En × Sto)} (st:Step μ H μ1 H1) (o:OutO K mg μ H Q r):OutO K mg μ1 H1 Q r:=by
 cases r with
 | none=>exact o
 | some p=>exact fun μ' H' σ' s=>o μ' H' σ' (st.trans s)
def tG (X:Cx) (g:MG):TG:=fun v σ H Q=>∃env S μ d,Rl X.K X.mg μ H env σ S∧Rep X.K X.mg μ H d v∧OutO X.K X.mg μ H Q (g d env S)
abbrev MGs:=List D→En→Sto→Option (En × Sto)
def tGs (X:Cx) (g:MGs):TGs:=fun vs σ H Q=>∃env S μ ds,Rl X.K X.mg μ H env σ S∧RepAll X.K X.mg μ H ds vs∧OutO X.K X.mg μ H Q (g ds env S)
theorem gU {X:Cx} {s:Stmt} {t t':TS} (h:PS X s t) (i:∀D σ H,t' D σ H→t D σ H):PS X s t':=⟨fun pins s σ H D I w=>h.run pins s σ H D I (i D σ H w)⟩
theorem kN {X:Cx} {s:List Stmt} {t t':TS} (h:PSs X s t) (i:∀D σ H,t' D σ H→t D σ H):PSs X s t':=⟨fun pins s σ H D I w=>h.run pins s σ H D I (i D σ H w)⟩
theorem nk {X:Cx} {e:Expr} {t t':TG} (h:PG X e t) (i:∀v σ H Q,t' v σ H Q→t v σ H Q):PG X e t':=⟨fun pins s σ H v u Q I r w=>h.run pins s σ H v u Q I r (i v σ H Q w)⟩
theorem mS {X:Cx} {e:List Expr} {t t':TGs} (h:PGs X e t) (i:∀v σ H Q,t' v σ H Q→t v σ H Q):PGs X e t':=⟨fun pins s σ H v u Q I r w=>h.run pins s σ H v u Q I r (i v σ H Q w)⟩
def bp:MS:=fun env S=>.next env S
def aV (a b:MS):MS:=fun env S=>(a env S).andThen b
section
variable {X:Cx} {W:WX} {st:Stmt} {rest body:List Stmt} {a b:MS} {e c:Expr} {pos:Pos} {m:ME} {tc:MT}
theorem aX:PSs X [] (tS X W bp):=kN pss_nil fun D σ H ⟨env,S,μ,rl,o⟩=>o μ H σ .refl rl.env rl.sto
theorem aG (h1:PS X st (tS X W a)) (h2:PSs X rest (tS X W b)):PSs X (st::rest) (tS X W (aV a b)):=
 kN (pss_cons h1 h2) fun D σ H ⟨env,S,μ,rl,o⟩=>⟨env,S,μ,rl,(OutS.andThen o).mono (fun σ1 H1 ⟨μ1,env1,S1,st,re,rs,o1⟩=>⟨env1,S1,μ1,⟨re,rs⟩,o1⟩) (fun _ _ h=>h) (fun _ _ h=>h) (fun _ _ h=>h)⟩
theorem aP (h1:PS X st (tS X W a)):PSs X [st] (tS X W a):=kN (pss_one h1) fun _ _ _ h=>h
def eq (m:ME):MS:=fun env S=>(m env S).rs env fun _ S=>.next env S
theorem c7 (he:PE X e (tE X W m)) (hs:swapsWith e none pos.line X.env=pure false:=by rfl):PS X (.Expr e pos) (tS X W (eq m)):=
 gU (ps_expr he hs) fun D σ H ⟨env,S,μ,rl,o⟩=>⟨env,S,μ,rl,(OutS.rs rl.env o).mono fun x H1 ⟨μ1,S1,d,st,rs,r,o1⟩=>o1 μ1 H1 σ .refl (rl.env.step st) rs⟩
def bW (m:ME):MS:=fun env S=>(m env S).rs env fun d S=>.ret d S
theorem ae (he:PE X e (tE X W m)):PS X (.Return (some e) pos) (tS X W (bW m)):=
 gU (ps_ret he) fun D σ H ⟨env,S,μ,rl,o⟩=>⟨env,S,μ,rl,(OutS.rs rl.env o).mono fun x H1 ⟨μ1,S1,d,st,rs,r,o1⟩=>o1 μ1 H1 x .refl rs r⟩
def sRetN:MS:=fun _ S=>.ret .none S
def tB:MS:=fun env S=>.brk env S
def sCont:MS:=fun env S=>.cont env S
/-- never come to -/
def kO:MS:=fun _ _=>.stuck
def tC:ME:=fun _ _=>.stuck
def sIf (tc:MT) (a b:MS):MS:=fun env S=>(tc env S).rs env fun c S=>if c=true then a env S else b env S
theorem aw {ba bb:List Stmt} (hc:PT X c (tT X W tc)) (ha:PSs X ba (tS X W a)) (hb:PSs X bb (tS X W b)):PS X (.If c ba bb pos) (tS X W (sIf tc a b)):=
 gU (ps_if hc ha hb) fun D σ H ⟨env,S,μ,rl,o⟩=>⟨env,S,μ,rl,(OutS.rs rl.env o).mono fun x H1 ⟨μ1,S1,d,st,rs,r,o1⟩=>by
  subst r
  cases x with
  | true=>exact ⟨env,S1,μ1,⟨rl.env.step st,rs⟩,o1⟩
  | false=>exact ⟨env,S1,μ1,⟨rl.env.step st,rs⟩,o1⟩⟩
def gV (i:Nat):MG:=fun d env S=>some (env.set i (some d),S)
theorem bE {i:Nat} {x:Str} (hN:X.N.Nodup) (hi:X.N[i]?=some x) (hx:Loc X.env.scope x) (hf:X.fn x=true∨X.env.scope.names.lookup x=some .local:=by first|exact .inl rfl|exact .inr rfl|assumption):PG X (.Name x pos) (tG X (gV i)):=
 nk (pg_name hN hi hx hf) fun v σ H Q ⟨env,S,μ,d,rl,r,o⟩=>o μ H _ .refl (rl.env.set r) rl.sto
def gW:MGs:=fun ds env S=>match ds with
 | []=>some (env,S)
 | _=>none
def bY (g:MG) (gs:MGs):MGs:=fun ds env S=>match ds with
 | d::ds=>(g d env S).bind fun p=>gs ds p.1 p.2
 | []=>none
theorem ia:PGs X [] (tGs X gW):=mS pgs_nil fun vs σ H Q ⟨env,S,μ,ds,rl,r,o⟩=>by
 cases ds with
 | nil=>unfold RepAll at r; exact ⟨r,o μ H σ .refl rl.env rl.sto⟩
 | cons a b=>exact o.elim
theorem bq {es:List Expr} {g:MG} {gs:MGs} (h1:PG X e (tG X g)) (h2:PGs X es (tGs X gs))
  (hs:(assignEach (e::es) X.env).map (·.2)=assign e X.env::(assignEach es X.env).map (·.2):=by rfl):PGs X (e::es) (tGs X (bY g gs)):=
 mS (pgs_cons h1 h2 hs) fun vs σ H Q ⟨env,S,μ,ds,rl,r,o⟩=>by
  cases ds with
  | nil=>exact o.elim
  | cons d ds=>
   unfold RepAll at r
   obtain ⟨v,q,rfl,r1,r2⟩:=r
   refine ⟨v,q,rfl,env,S,μ,d,rl,r1,?_⟩
   have o:OutO X.K X.mg μ H Q ((g d env S).bind fun p=>gs ds p.1 p.2):=o
   cases hq:g d env S with
   | none=>rw[hq] at o; exact o.elim
   | some p=>
    rw[hq] at o
    exact fun μ' H' σ' s t u=>⟨p.1,p.2,μ',ds,⟨t,u⟩,RepAll.step s _ _ r2,OutO.of_step s o⟩
def fW (n:Nat) (gs:MGs):MG:=fun d env S=>match vt d with
 | .tup ds=>if ds.length=n then gs ds env S else none
 | _=>none
theorem kP {es:List Expr} {k:Nat} {n:Nat} {gs:MGs} (hc:X.calm=true) (h:PGs X es (tGs X gs))
  (hn:(assignEach es X.env).length=n:=by rfl) (hst:(assignEach es X.env).findIdx? (·.1)=none:=by rfl):PG X (.Tuple es k pos) (tG X (fW n gs)):=
 nk (pg_tup hc h hn hst) fun v σ H Q ⟨env,S,μ,d,rl,r,o⟩=>by
  unfold fW at o
  split at o
  ·rename_i ds ev
   by_cases hl:ds.length=n
   ·simp only[hl,if_true] at o
    have w:=r.wv.vt
    rw[ev] at w
    obtain ⟨a,vs,rfl,h1,h2,_⟩:=w
    exact ⟨a,vs,rfl,.inl h1,by rw[←h2.length]; exact hl,env,S,μ,ds,rl,h2,o⟩
   ·simp only[hl,if_false] at o; exact o.elim
  ·exact o.elim
def ofG:Option (En × Sto)→RS
 | some p=>.next p.1 p.2
 | none=>.stuck
theorem vA {K:PySem.W.Frag} {mg:Str→Option Value} {μ:Mu} {H:Hp} {D:Ends} {r:Option (En × Sto)} (o:OutS K mg W μ H D (ofG r)):OutO K mg μ H D.nx r:=by
 cases r with
 | none=>exact o
 | some p=>exact o
def lU (m:ME) (g:MG):MS:=fun env S=>(m env S).rs env fun d S=>ofG (g d env S)
theorem iP {tg:Expr} {g:MG} (he:PE X e (tE X W m)) (hg:PG X tg (tG X g)) (hs:swapsWithSole [tg] e pos.line X.env=pure false:=by rfl) (hw:swappedStores [tg] e X.env=pure none:=by rfl)
  (h1:(assignEach [tg] X.env).map (·.2)=[assign tg X.env]:=by rfl):PS X (.Assign [tg] e pos) (tS X W (lU m g)):=
 gU (ps_asg he hg hs hw h1) fun D σ H ⟨env,S,μ,rl,o⟩=>⟨env,S,μ,rl,(OutS.rs rl.env o).mono fun x H1 ⟨μ1,S1,d,st,rs,r,o1⟩=>⟨env,S1,μ1,d,⟨rl.env.step st,rs⟩,r,vA o1⟩⟩
/-- a,b=x,y,both plain local names -/
def pO (i j:Nat) (r:MA):MS:=fun env S=>(r env S).rs env fun ds S=>match ds with
 | [a,b]=>.next ((env.set i (some a)).set j (some b)) S
 | _=>.stuck
theorem mT {i j:Nat} {x y:Str} {e1 e2:Expr} {r:MA} {px py pt:Pos} {kt k2 pt2} (hc:X.calm=true) (hN:X.N.Nodup) (hi:X.N[i]?=some x) (hj:X.N[j]?=some y) (hij:i≠j)
  (hx:X.env.scope.names.lookup x=some .local) (hy:X.env.scope.names.lookup y=some .local) (ha:PA X [e1,e2] (tAs X W r))
  (hw:swappedStores [.Tuple [.Name x px,.Name y py] kt pt] (.Tuple [e1,e2] k2 pt2) X.env=pure (some [x,y]):=by rfl)
  (hs:swapsWithSole [.Tuple [.Name x px,.Name y py] kt pt] (.Tuple [e1,e2] k2 pt2) pos.line X.env=pure false:=by rfl) :
  PS X (.Assign [.Tuple [.Name x px,.Name y py] kt pt] (.Tuple [e1,e2] k2 pt2) pos) (tS X W (pO i j r)):=
 gU (ps_par hc hN hi hj hij hx hy ha hw hs) fun D σ H ⟨env,S,μ,rl,o⟩=>⟨env,S,μ,rl,(OutS.rs rl.env o).mono fun vs H1 ⟨μ1,S1,ds,st,rs,r,o1⟩=>by
  match ds,o1 with
  | [a,b],o1=>
   unfold RepAll at r
   obtain ⟨v,q,rfl,r1,r2⟩:=r
   unfold RepAll at r2
   obtain ⟨w,q,rfl,r2,r3⟩:=r2
   unfold RepAll at r3
   subst r3
   exact ⟨v,w,rfl,o1 μ1 H1 _ .refl (((rl.env.step st).set r1).set r2) rs⟩⟩
def ap (i:Nat) (m:ME):MS:=fun env S=>(m env S).rs env fun d S=>.next (env.set i (some d)) S
theorem aZ {i:Nat} {x:Str} {pos':Pos} (hN:X.N.Nodup) (hi:X.N[i]?=some x) (hx:Loc X.env.scope x) (he:PE X e (tE X W m)) (hs:swapsWith e (some (.Name x pos')) pos.line X.env=pure false:=by rfl) (hf:X.fn x=true∨X.env.scope.names.lookup x=some .local:=by first|exact .inl rfl|exact .inr rfl|assumption) :
  PS X (.Assign [.Name x pos'] e pos) (tS X W (ap i m)):=
 gU (ps_set hN hi hx he hs hf) fun D σ H ⟨env,S,μ,rl,o⟩=>⟨env,S,μ,rl,(OutS.rs rl.env o).mono fun x H1 ⟨μ1,S1,d,st,rs,r,o1⟩=>o1 μ1 H1 _ .refl ((rl.env.step st).set r) rs⟩
/-- x op= e -/
def sAug (i:Nat) (f:Sto→D→D→Option D) (m:ME):MS:=fun env S=>match env[i]? with
 | some (some a)=>(m env S).rs env fun b S=>match f S a b with
  | some d=>.next (env.set i (some d)) S
  | none=>.stuck
 | _=>.stuck
end
end DL
namespace PySem
open PySem PySem.Sem
set_option maxHeartbeats 1000000 in
theorem ib {v:Value} {o:Obj} {H:Heap→Prop} (B:Begins v o H) :
  Meets (Builtin.«enumerate.__new__» ⟨[.type "enumerate",v],[]⟩) (fun _ R s=>H s.heap∧
   R (.ok (.ret (.ref (s.heap.push o).objs.size))) { s with heap:=(s.heap.push o).push { cls:=.type "enumerate",data:=.fields #[.none,.bool false,.ref s.heap.objs.size,rawInt 0,.none,.none] } }):=
 .of_wp fun prog w A R s h=>by
  obtain ⟨hp,g,d,tk,os⟩:=s; obtain ⟨h1,h⟩:=h
  have hsub:=sub_enumerate
  have q1:∀ {A':Around} {E:Value→Shared→Prop} {Q:Value→Shared→Prop},Q (.ref hp.objs.size) ⟨hp.push o,g,d,tk,os⟩→wpAny (model prog w) A' (pyIter v) Q E ⟨hp,g,d,tk,os⟩:=
   fun q=>B.iter prog w _ _ ⟨hp,g,d,tk,os⟩ _ h1 q
  wp_walk using q1
  refine wpAny_stack_any fun st=>wpAny_pure ?_
  split
  ·rename_i c _ _ _ _ _
   cases (c == Value.type "enumerate")
   ·wp_walk using q1
    exact ⟨_,rfl,h⟩
   ·wp_walk using q1
    exact ⟨_,rfl,h⟩
  ·wp_walk using q1
   exact ⟨_,rfl,h⟩
theorem dl_enum_begins {prog:Program} {w:World} {A:Around} {E:Value→Shared→Prop} {s:Shared} {v:Value} {o:Obj} {H:Heap→Prop} {Q:Value→Shared→Prop} (B:Begins v o H) (h1:H s.heap)
  (h:∀h',IsEnum h' (s.heap.objs.size+1) s.heap.objs.size 0 .none→h'.get? s.heap.objs.size=some o→h'.objs.size=s.heap.objs.size+2→
   (∀b o,s.heap.get? b=some o→h'.get? b=some o)→Q (.ref (s.heap.objs.size+1)) { s with heap:=h' }) :
  wpAny (model prog w) A (call (.type "enumerate") [v]) Q E s:=by
 refine callType_new F.called_enumerate (by decide) (F.typeCall_enumerate_1 _) (F.newCall_enumerate_1 _) (fun obj=>F.args_object_init_2 obj _) F.entry_enumerate_new
  (ib B) ⟨h1,?_⟩
 have hz:(s.heap.push o).objs.size=s.heap.objs.size+1:=Heap.size_push ..
 show _∧_
 rw[hz]
 have he:IsEnum ((s.heap.push o).push { cls:=.type "enumerate",data:=.fields #[.none,.bool false,.ref s.heap.objs.size,rawInt 0,.none,.none] }) (s.heap.objs.size+1) s.heap.objs.size 0 .none:=by
  have:=Heap.get?_push_size (s.heap.push o) (o:={ cls:=.type "enumerate",data:=.fields #[.none,.bool false,.ref s.heap.objs.size,rawInt 0,.none,.none] }) rfl
  rw[hz] at this; exact this
 refine ⟨⟨_,he,rfl⟩,h _ he (Heap.get?_push_of_some _ (Heap.get?_push_size _ B.free)) (by rw[Heap.size_push,hz]) fun b o x=>Heap.get?_push_of_some _ (Heap.get?_push_of_some _ x)⟩
end PySem
namespace DL
open PySem PySem.Spec PyProof.Rows L2
theorem tD {H:Hp} {a b:Addr} {u:HO} (h:Rd H a u) (n:H b=none):a≠b:=fun z=>by
 subst z
 rcases h with h|⟨o,h⟩<;>(rw[n] at h; cases h)
def IteT (a:Addr):It:=
 ⟨fun i H=>∃(xs:List V) (x:V),Rd H a (.tup xs)∧xs[i]?=some x,fun i H v H'=>∃T x,v=.ref T∧H T=none∧H'=upd H T (.tup [.int (i:Nat),x])∧∀xs,Rd H a (.tup xs)→xs[i]?=some x,fun i H=>∃xs:List V,Rd H a (.tup xs)∧xs.length=i⟩
theorem pP {P:Program} {w:World} {K:PySem.W.Frag} {elts:List Expr} {kk:Nat} {tpos:Pos} (a e it:Addr) :
  Turn P w K (.Tuple elts kk tpos) (IteT a) [e,it] e (fun i h=>(∃old,IsEnum h e it ((i:Nat):Int) old)∧h.IsTupleIter it a i∧e≠it) where
 mem:=by simp
 obj:=fun i h st b hb=>by
  obtain ⟨⟨old,he⟩,⟨o,ho,hc,hd⟩,_⟩:=st
  have e':b=e∨b=it:=by simpa using hb
  rcases e' with z|z
  ·rw[z]; exact ⟨_,he,fun v q=>nomatch q⟩
  ·rw[z]; exact ⟨o,ho,fun v q=>by rw[hd] at q; cases q⟩
 keep:=fun i h h' st k=>let ⟨⟨old,he⟩,hi,hne⟩:=st; ⟨⟨old,k e zqS _ he⟩,hi.at fun o q=>k it zqS o q,hne⟩
 item:=by
  intro X hP hw hK hc i pins s σ H E I hf st hg
  subst hP hw hK
  obtain ⟨⟨old,he⟩,hit,hne⟩:=st
  obtain ⟨xs,x,hq,hx⟩:=hg
  obtain ⟨its,rv,p,hz⟩:=I.tuple (.inl hq)
  obtain ⟨u,hu,ru⟩:=rv.get hx
  have hel:e<s.heap.objs.size:=Heap.lt_size he
  have hil:it<s.heap.objs.size:=by obtain ⟨_,q,_⟩:=hit; exact Heap.lt_size q
  have hai:a≠it:=tD hq (hf it zqS).1
  have hae:a≠e:=tD hq (hf e zqS).1
  have D:=PySem.Draws.tuple (prog:=X.prog) (w:=X.w) (A:=X.A.in1) (I.ok.hd hc) it a hai its.toArray
  have hlt:i<its.toArray.size:=by
   have:=(List.getElem?_eq_some_iff.mp hu).1
   simpa using this
  refine PySem.wpAny_pyNext_enum_itemD D he ⟨hit,p⟩ hlt hne (by simp[hne,hae.symm]) fun x' h' tk hx' ho hit' hT hsz hk=>?_
  have ex:x'=u:=by
   have q:its.toArray[i]?=some x':=hx'
   have q2:its.toArray[i]?=some u:=by simpa using hu
   rw[q] at q2; exact Option.some.inj q2
  subst ex
  refine ⟨_,rfl,wpAny_letOwnedTupleGo_enum (s:={ s with heap:=h',toks:=tk+1 }) ho fun h'' he' sb=>?_⟩
  have hT2:h''.get? s.heap.objs.size=some { cls:=.type "tuple",data:=.seq #[.int i tk,x'] }:=(sb.2 _ (Nat.ne_of_gt hel)).trans hT
  have new:ObjOk X.prog X.w (upd H s.heap.objs.size (.tup [.int (i:Nat),x])) h'' s.heap.objs.size (.tup [.int (i:Nat),x]):=
   ⟨by show 2≤sizeLine; decide,[.int i tk,x'],.cons ⟨_,rfl⟩ (.cons ru .nil),⟨_,hT2,rfl,_,rfl⟩⟩
  have I1:L2.Inv X pins σ (upd H s.heap.objs.size (.tup [.int (i:Nat),x])) { s with heap:=h'',toks:=tk+1 }:=
   I.turnedNew (ch:=[e,it]) (fun b ob hb q=>(sb.2 b (fun z=>hb (by simp[z]))).trans (hk b ob (fun z=>hb (by simp[z])) (fun z=>hb (by simp[z])) q)) hf (Nat.le_refl _) new
  refine ⟨.ref s.heap.objs.size,_,I1,rfl,⟨_,x,rfl,I.hok.fresh (Nat.le_refl _),rfl,fun ys hy=>by rw[I.tuple_inj (.inl hy) (.inl hq)]; exact hx⟩,⟨⟨x',?_⟩,hit'.1.at fun o q=>(sb.2 it (Ne.symm hne)).trans q,hne⟩,fun b hb=>?_⟩
  ·have e1:((i+1:Nat):Int)=(i:Int)+1:=zqO
   rw[e1]; exact he'
  ·have hb':b<s.heap.objs.size:=by
    have e':b=e∨b=it:=by simpa using hb
    rcases e' with z|z
    ·rw[z]; exact hel
    ·rw[z]; exact hil
   rw[upd_ne (Nat.ne_of_lt hb')]
   exact (hf b hb).1
 done:=by
  intro X hP hw hK hc i pins s σ H E I hf st hg
  subst hP hw hK
  obtain ⟨⟨old,he⟩,hit,hne⟩:=st
  obtain ⟨xs,hq,hx⟩:=hg
  obtain ⟨its,rv,p,hz⟩:=I.tuple (.inl hq)
  obtain ⟨f0,f1,f2,f3,f4,f5⟩:=hf it zqS
  have hl:=rv.length
  have hai:a≠it:=tD hq (hf it zqS).1
  have hsz:its.toArray.size=i:=by simp; omega
  have D:=PySem.Draws.tuple (prog:=X.prog) (w:=X.w) (A:=X.A.in1) (I.ok.hd hc) it a hai its.toArray
  exact PySem.wpAny_pyNext_enum_endD D he (show _ from ⟨by rw[hsz]; exact hit,p⟩) fun h' eb=>⟨rfl,I.turned (t':=s.toks) (fun b o hb q=>eb b o hb q) f0 f1 f3 f4 f5⟩
 self:=fun A i s Q E st h=>let ⟨⟨_,he⟩,_⟩:=st; wpAny_pyIter_enum he h
inductive ItD where
 | items (ds:List D)|live (l:Nat)|liveE (l:Nat)
abbrev MI:=En→Sto→Res ItD
structure eO (K:PySem.W.Frag) (mg:Str→Option Value) (μ1:Mu) (H1:Hp) (ds:List D) (J:It):Prop where
 goes:∀i μ H,i<ds.length→Stp μ1 H1 μ H→J.go i H
 stops:∀μ H,Stp μ1 H1 μ H→J.stop ds.length H
 yields:∀i d μ H S x H',ds[i]?=some d→Stp μ1 H1 μ H→RelS K mg μ H S→J.yld i H x H'→Sm H H'∧Rep K mg μ H' d x
def WalkOk (K:PySem.W.Frag) (mg:Str→Option Value) (μ1:Mu) (H1:Hp):ItD→It→Prop
 | .items ds,J=>eO K mg μ1 H1 ds J
 | .live l,J=>∃a,μ1.l[l]?=some a∧J=Itl K a
 | .liveE l,J=>∃a,μ1.l[l]?=some a∧J=Ite K a
def tI (X:Cx) (W:WX) (mi:MI):TI:=fun σ H R=>tM X (fun μ H it J=>WalkOk X.K X.mg μ H it J) W mi σ H R
theorem pi_to {X:Cx} {tg e:Expr} {t t':TI} (h:PI X tg e t) (i:∀σ H R,t' σ H R→t σ H R):PI X tg e t':=⟨fun pins s σ H R I w=>h.run pins s σ H R I (i σ H R w)⟩
def gA (z:Str):List D:=z.cps.toList.map fun c=>.str ⟨#[c]⟩
def dS (S:Sto) (d:D):Option ItD:=match vt d with
 | .tup xs=>some (.items xs)
 | .lst xs=>some (.items xs)
 | .ro xs=>some (.items xs)
 | .str z=>some (.items (gA z))
 | .loc l=>match S[l]? with
  | some (.lst _)=>some (.live l)
  | some (.fdc _ kvs)=>some (.items (kvs.map (·.1)))
  | _=>none
 | _=>none
def fR (m:ME):MI:=fun env S=>(m env S).bind fun d S=>ofO S (dS S d)
section
variable {K:PySem.W.Frag} {mg:Str→Option Value} {μ:Mu} {H:Hp} {a:Addr} {xs:List D} {vs:List V}
theorem rW (h:Rd H a (.tup vs)) (n:a∉μ) (r:RepAll K mg μ H xs vs):eO K mg μ H xs (Itt K a) where
 goes:=fun i μ' H' hi st=>⟨vs,vs[i]'(by rw[←r.length]; exact hi),.inl (c6 st h n).1,zqS⟩
 stops:=fun μ' H' st=>⟨vs,.inl (c6 st h n).1,by rw[r.length]; exact Nat.le_refl _⟩
 yields:=fun i d μ' H' S x H2 e st rs y=>by
  obtain ⟨rfl,y⟩:=y
  obtain ⟨v,h1,h2⟩:=r.get e
  have q:=y vs (.inl (c6 st h n).1)
  rw[h1] at q; cases q
  exact ⟨.rfl,Rep.stp st _ _ h2⟩
theorem lq (h:L2.SqL K H a vs) (hs:∀μ' H',Stp μ H μ' H'→L2.SqL K H' a vs) (r:RepAll K mg μ H xs vs):eO K mg μ H xs (Itl K a) where
 goes:=fun i μ' H' hi st=>⟨vs,vs[i]'(by rw[←r.length]; exact hi),hs _ _ st,zqS⟩
 stops:=fun μ' H' st=>⟨vs,hs _ _ st,by rw[r.length]; exact Nat.le_refl _⟩
 yields:=fun i d μ' H' S x H2 e st rs y=>by
  obtain ⟨rfl,y⟩:=y
  obtain ⟨v,h1,h2⟩:=r.get e
  have q:=y vs (hs _ _ st)
  rw[h1] at q; cases q
  exact ⟨.rfl,Rep.stp st _ _ h2⟩
theorem RelS.ntup {S:Sto} (rs:RelS K mg μ H S) {q:Addr} {us:List V} (e:H q=some (.tup us)):q∉μ:=fun z=>by
 rcases z with z|z
 ·obtain ⟨l,hl,e2⟩:=List.getElem_of_mem z
  have hl2:l<S.length:=by rw[rs.len]; exact hl
  obtain ⟨a',h1,h2⟩:=rs.at_ l _ (List.getElem?_eq_getElem hl2)
  rw[List.getElem?_eq_getElem hl,e2] at h1; cases h1
  generalize S[l]=o at h2
  cases o with
  | lst ds=>obtain ⟨vs,h1,h2⟩:=h2; rw[e] at h1; cases h1
  | dct t kvs=>cases t<;>(obtain ⟨vs,ks,⟨q,k⟩,h2⟩:=h2; rw[e] at q; cases q)
  | ins C fs=>obtain ⟨Ca,dx,vs,g,h1,h2⟩:=h2; rw[e] at h1; cases h1
  | fdc t kvs=>cases t<;>(obtain ⟨vs,ks,⟨⟨od,q⟩,k⟩,h2⟩:=h2; rw[e] at q; cases q)
 ·obtain ⟨u,h1,h2⟩:=rs.hid q z
  rw[e] at h1; cases h1
  rcases h2 with ⟨_,h⟩|⟨_,h⟩|⟨_,h⟩<;>cases h
theorem nq (k:Key):Rep K mg μ H (dR k) (kV k):=by
 cases k with
 | inl i=>exact bK i
 | inr x=>exact fM x
theorem lu:∀ks:List Key,RepAll K mg μ H (ks.map dR) (ks.map kV)
 | []=>.nil
 | k::ks=>.cons (nq k) (lu ks)
theorem pQ {od:Obj} {ks:List Key} {us:List V} (h:H a=some (.frz od (.dK (ks.zip us)))) (hl:ks.length=us.length):eO K mg μ H (ks.map dR) (Itk a od (ks.zip us)) where
 goes:=fun i μ' H' hi st=>⟨st.kf _ _ _ h,by simp at hi ⊢; omega⟩
 stops:=fun μ' H' st=>⟨st.kf _ _ _ h,by simp; omega⟩
 yields:=fun i d μ' H' S x H2 e st rs y=>by
  obtain ⟨rfl,k,v,h1,rfl⟩:=y
  have hk:ks[i]?=some k:=by
   have:=congrArg (Option.map (·.1)) h1
   rw[←List.getElem?_map,List.map_fst_zip zqO] at this
   simpa using this
  rw[List.getElem?_map,hk] at e
  cases e
  exact ⟨.rfl,nq k⟩
theorem nr {od:Obj} {ks:List (List Key)} {us:List V} (h:H a=some (.frz od (.dT (ks.zip us)))) (hl:ks.length=us.length):eO K mg μ H (ks.map fV) (Itkt a od (ks.zip us)) where
 goes:=fun i μ' H' hi st=>⟨st.kf _ _ _ h,by simp at hi ⊢; omega⟩
 stops:=fun μ' H' st=>⟨st.kf _ _ _ h,by simp; omega⟩
 yields:=fun i d μ' H' S x H2 e st rs y=>by
  obtain ⟨rfl,k,v,q,h1,rfl,h2⟩:=y
  have hk:ks[i]?=some k:=by
   have:=congrArg (Option.map (·.1)) h1
   rw[←List.getElem?_map,List.map_fst_zip zqO] at this
   simpa using this
  rw[List.getElem?_map,hk] at e
  cases e
  refine ⟨.rfl,?_⟩
  unfold fV Rep
  exact ⟨q,_,rfl,h2,rs.ntup h2,lu k⟩
theorem nu {κ:Type} {g:κ→D} {kvs:List (D × D)} {ks:List κ} {us:List V} (e:kvs.map (·.1)=ks.map g) (r:RepAll K mg μ H (kvs.map (·.2)) us):ks.length=us.length:=by
 have h1:=congrArg List.length e
 have h2:=r.length
 simp at h1 h2
 omega
theorem rX (z:Str):eO K mg μ H (gA z) (Its z) where
 goes:=fun i μ' H' hi st=>by
  have:(gA z).length=z.cps.size:=by simp[gA]
  show i<z.cps.size
  omega
 stops:=fun μ' H' st=>by
  show z.cps.size≤(gA z).length
  simp[gA]
 yields:=fun i d μ' H' S x H2 e st rs y=>by
  obtain ⟨rfl,c,hc,rfl⟩:=y
  refine ⟨.rfl,?_⟩
  unfold gA at e
  rw[List.getElem?_map] at e
  have:z.cps.toList[i]?=some c:=by simpa using hc
  rw[this] at e
  cases e
  exact fM _
end
section
variable {X:Cx} {W:WX} {tg e:Expr} {m:ME}
theorem mU {pins:List (Addr × Obj)} {s1:Shared} {σ:L2.St} {H1:Hp} {R:It→Hp→Prop} {E:Value→Shared→Prop} {a:Addr} {xs:List V} (I1:L2.Inv X pins σ H1 s1) (hq:L2.SqL X.K H1 a xs) (q:R (Itl X.K a) H1) :
  wpAny (model X.prog X.w) X.A (pyIter (.ref a)) (PIE X pins σ tg R) E s1:=by
 obtain ⟨its,rv,p,hz⟩:=I1.list hq
 refine wpAny_pyIter_list p.isList ?_
 refine ⟨s1.heap.objs.size,[s1.heap.objs.size],_,_,H1,rfl,I1.kept (t':=s1.toks) fun b o e=>Heap.get?_push_of_some _ e,turn_list a _,⟨_,Heap.get?_push_size _ rfl,rfl,rfl⟩,fun b hb=>?_,q⟩
 have e:b=s1.heap.objs.size:=by simpa using hb
 subst e
 exact I1.fpOk (Nat.le_refl _) (I1.hok.fresh (Nat.le_refl _))
theorem it_tup {pins:List (Addr × Obj)} {s1:Shared} {σ:L2.St} {H1:Hp} {R:It→Hp→Prop} {E:Value→Shared→Prop} {a:Addr} {xs:List V} (I1:L2.Inv X pins σ H1 s1) (hq:L2.SqT X.K H1 a xs) (q:R (Itt X.K a) H1) :
  wpAny (model X.prog X.w) X.A (pyIter (.ref a)) (PIE X pins σ tg R) E s1:=by
 obtain ⟨its,rv,p,hz⟩:=I1.tuple hq
 refine wpAny_pyIter_tuple (show s1.heap.IsTuple a its.toArray from p) ?_
 refine ⟨s1.heap.objs.size,[s1.heap.objs.size],_,_,H1,rfl,I1.kept (t':=s1.toks) fun b o e=>Heap.get?_push_of_some _ e,turn_tuple a _,⟨_,Heap.get?_push_size _ rfl,rfl,rfl⟩,fun b hb=>?_,q⟩
 have e:b=s1.heap.objs.size:=by simpa using hb
 subst e
 exact I1.fpOk (Nat.le_refl _) (I1.hok.fresh (Nat.le_refl _))
theorem vB {pins:List (Addr × Obj)} {s1:Shared} {σ:L2.St} {H1:Hp} {R:It→Hp→Prop} {E:Value→Shared→Prop} {d:Addr} {o:Obj} {kvs:List (Key × V)} (I1:L2.Inv X pins σ H1 s1) (hd:H1 d=some (.frz o (.dK kvs))) (q:R (Itk d o kvs) H1) :
  wpAny (model X.prog X.w) X.A (pyIter (.ref d)) (PIE X pins σ tg R) E s1:=by
 obtain ⟨hs,hgd,hx,es,ep,vs,hdt,hsz,kv,hm⟩:=I1.frzK hd
 refine iter_keys hs hgd hx hdt (pi_one (tk:=s1.toks) I1 _ (turn_keys _ hdt) ⟨_,Heap.get?_push_size _ rfl,rfl,?_⟩ q)
 rw[hsz]<;>rfl
theorem tF {pins:List (Addr × Obj)} {s1:Shared} {σ:L2.St} {H1:Hp} {R:It→Hp→Prop} {E:Value→Shared→Prop} {d:Addr} {o:Obj} {kvs:List (List Key × V)} (I1:L2.Inv X pins σ H1 s1) (hd:H1 d=some (.frz o (.dT kvs))) (q:R (Itkt d o kvs) H1) :
  wpAny (model X.prog X.w) X.A (pyIter (.ref d)) (PIE X pins σ tg R) E s1:=by
 obtain ⟨hs,hgd,hx,es,ep,hdt,hsz,ent⟩:=I1.frzT hd
 refine iter_keys hs hgd hx hdt (pi_one (tk:=s1.toks) I1 _ (turn_keysT _ hdt) ⟨_,Heap.get?_push_size _ rfl,rfl,?_⟩ q)
 rw[hsz]<;>rfl
/-- a text's value walked -/
theorem it_str {pins:List (Addr × Obj)} {s1:Shared} {σ:L2.St} {H1:Hp} {R:It→Hp→Prop} {z:Str} {v:Value} (I1:L2.Inv X pins σ H1 s1) (r:RelV (.str z) v) (q:R (Its z) H1) :
  wpAny (model X.prog X.w) X.A (pyIter v) (PIE X pins σ tg R) X.xe s1:=by
 obtain ⟨t,rfl⟩:=r
 cases ha:z.cps.all (·<128)
 ·exact wpAny_pyIter_wide ha (pi_one (tk:=s1.toks) I1 _ (turn_str _ z t "str_iterator" (.inr rfl)) ⟨_,Heap.get?_push_size _ rfl,rfl,rfl⟩ q)
 ·exact wpAny_pyIter_ascii ha (pi_one (tk:=s1.toks) I1 _ (turn_str _ z t "str_ascii_iterator" (.inl rfl)) ⟨_,Heap.get?_push_size _ rfl,rfl,rfl⟩ q)
theorem ji {d e:D} (h:vt d=e) (n:∀xs,e≠.tup xs):d=e:=by
 cases d with
 | tpn xs=>exact absurd h.symm (n xs)
 | _=>exact h
theorem cS (h:PE X e (tE X W m)):PI X tg e (tI X W (fR m)):=⟨fun pins s σ H R I ⟨env,S,μ,rl,o⟩=>by
 refine thn (h.run pins s σ H _ I ⟨env,S,μ,rl,Out.bind o⟩) fun v s1 ⟨x,H1,I1,r1,μ1,S1,d,st,rs,rd,o1⟩=>?_
 have rw0:=rd.wv.vt
 unfold dS at o1
 split at o1
 ·rename_i ev
  rw[ev] at rw0
  obtain ⟨a,vs,rfl,h1,h2,n⟩:=rw0
  cases r1
  exact it_tup I1 (.inl h1) (o1 _ _ _ .refl rs (rW h1 n h2))
 ·rename_i ev
  rw[ji ev nofun] at rd
  unfold Rep at rd
  obtain ⟨a,vs,rfl,h1,n,h2⟩:=rd
  cases r1
  exact mU I1 (.of h1) (o1 _ _ _ .refl rs (lq (.of h1) (fun _ _ st=>.of (st.keep _ _ h1 n)) h2))
 ·rename_i ev
  rw[ji ev nofun] at rd
  unfold Rep at rd
  obtain ⟨a,vs,rfl,h1,h2⟩:=rd
  cases r1
  exact mU I1 h1.sq (o1 _ _ _ .refl rs (lq h1.sq (fun _ _ st=>(h1.stp st).sq) h2))
 ·rename_i ev
  rw[ji ev nofun] at rd
  unfold Rep at rd
  subst rd
  exact it_str I1 r1 (o1 _ _ _ .refl rs (rX _))
 ·rename_i ev
  rw[ji ev nofun] at rd
  unfold Rep at rd
  obtain ⟨a,rfl,hμ⟩:=rd
  cases r1
  split at o1
  ·rename_i xs es
   obtain ⟨a',h1,vs,h2,h3⟩:=rs.at_ _ _ es
   rw[hμ] at h1; cases h1
   exact mU I1 (.of h2) (o1 _ _ _ .refl rs ⟨_,hμ,rfl⟩)
  ·rename_i t kvs es
   obtain ⟨a',h1,h2⟩:=rs.at_ _ _ es
   rw[hμ] at h1; cases h1
   cases t with
   | false=>
    obtain ⟨vs,ks,⟨⟨od,q⟩,hk⟩,rr⟩:=h2
    rw[hk] at o1
    exact vB I1 q (o1 _ _ _ .refl rs (pQ q (nu hk rr)))
   | true=>
    obtain ⟨vs,ks,⟨⟨od,q⟩,hk⟩,rr⟩:=h2
    rw[hk] at o1
    exact tF I1 q (o1 _ _ _ .refl rs (nr q (nu hk rr)))
  ·exact o1.elim
 ·exact o1.elim⟩
def jH (lo:Int) (n:Nat):List D:=(List.range n).map fun i=>.int (lo+(i:Nat))
theorem rY {K:PySem.W.Frag} {mg:Str→Option Value} {μ:Mu} {H:Hp} (lo:Int) (n:Nat):eO K mg μ H (jH lo n) (Itr lo n) where
 goes:=fun i μ' H' hi st=>by
  have:(jH lo n).length=n:=by simp[jH]
  show i<n
  omega
 stops:=fun μ' H' st=>by
  show n≤(jH lo n).length
  simp[jH]
 yields:=fun i d μ' H' S x H2 e st rs y=>by
  obtain ⟨rfl,rfl⟩:=y
  refine ⟨.rfl,?_⟩
  unfold jH at e
  rw[List.getElem?_map] at e
  obtain ⟨j,hj,hd⟩:=Option.map_eq_some_iff.mp e
  have:j=i:=by
   have q:=List.getElem?_eq_some_iff.mp hj
   obtain ⟨h1,h2⟩:=q
   rw[List.getElem_range] at h2
   exact h2.symm
  subst this
  subst hd
  exact bK _
/-- of at most 63 bits; no kernel is to reckon it -/
noncomputable def bN (i:Int):Bool:=@decide (-(2 ^ 62)≤i∧i<2 ^ 62) (Classical.propDecidable _)
theorem smallI_iff {i:Int}:bN i=true ↔ -(2 ^ 62)≤i∧i<2 ^ 62:=by
 unfold bN
 exact @decide_eq_true_iff _ (Classical.propDecidable _)
noncomputable def dz (r:MA):MI:=fun env S=>(r env S).bind fun ds S=>match ds with
 | [.int j]=>if bN j then .ok (.items (jH 0 j.toNat)) S else .stuck
 | _=>.stuck
noncomputable def tH (r:MA):MI:=fun env S=>(r env S).bind fun ds S=>match ds with
 | [.int i,.int j]=>if bN i&&bN j then .ok (.items (jH i (j - i).toNat)) S else .stuck
 | _=>.stuck
variable {a b:Expr} {p pos:Pos} {r:MA}
theorem cP {K:PySem.W.Frag} {mg:Str→Option Value} {μ:Mu} {H:Hp} {a:D} {vs:List V} (h:RepAll K mg μ H [a] vs):∃v,vs=[v]∧Rep K mg μ H a v:=by
 unfold RepAll at h
 obtain ⟨v,q,rfl,r1,r2⟩:=h
 unfold RepAll at r2
 subst r2
 exact ⟨v,rfl,r1⟩
theorem gr {K:PySem.W.Frag} {mg:Str→Option Value} {μ:Mu} {H:Hp} {a b:D} {vs:List V} (h:RepAll K mg μ H [a,b] vs):∃v w,vs=[v,w]∧Rep K mg μ H a v∧Rep K mg μ H b w:=by
 unfold RepAll at h
 obtain ⟨v,q,rfl,r1,r2⟩:=h
 obtain ⟨w,rfl,r3⟩:=cP r2
 exact ⟨v,w,rfl,r1,r3⟩
theorem eP (hg:Gl X "range") (hm:X.mg "range"=none) (ha:PA X [a] (tAs X W r)) (hs:starEach [a] X.env=[(false,eval a X.env)]:=by rfl):PI X tg (.Call (.Name "range" p) [a] [] pos) (tI X W (dz r)):=
 pi_to (pi_range1 hg hm ha hs) fun σ H R ⟨env,S,μ,rl,o⟩=>⟨env,S,μ,rl,(Out.bind o).mono fun vs H1 ⟨μ1,S1,ds,st,rs,rd,o1⟩=>by
  split at o1
  ·rename_i j
   obtain ⟨v,rfl,r1⟩:=cP rd
   unfold Rep at r1
   subst r1
   split at o1
   ·rename_i hj
    rw[smallI_iff] at hj
    exact ⟨j,rfl,hj.1,hj.2,o1 _ _ _ .refl rs (rY 0 _)⟩
   ·exact o1.elim
  ·exact o1.elim⟩
def dU (n:Nat):List D→List D
 | []=>[]
 | d::ds=>.tup [.int (n:Nat),d]::dU (n+1) ds
theorem jI:∀(ds:List D) (n i:Nat) (d:D),(dU n ds)[i]?=some d→∃e,ds[i]?=some e∧d=.tup [.int ((n+i:Nat):Int),e]
 | [],n,i,d,h=>by simp[dU] at h
 | a::ds,n,0,d,h=>by
  simp[dU] at h
  exact ⟨a,rfl,h.symm⟩
 | a::ds,n,i+1,d,h=>by
  have h:(dU (n+1) ds)[i]?=some d:=by simpa [dU] using h
  obtain ⟨e,h1,h2⟩:=jI ds (n+1) i d h
  exact ⟨e,by simpa using h1,by rw[h2]; congr 3; omega⟩
theorem dJ:∀(ds:List D) (n:Nat),(dU n ds).length=ds.length
 | [],_=>rfl
 | a::ds,n=>by simp[dU,dJ ds]
theorem nw {K:PySem.W.Frag} {mg:Str→Option Value} {μ:Mu} {H:Hp} {a:Addr} {xs:List D} {vs:List V} (h:Rd H a (.tup vs)) (n:a∉μ) (r:RepAll K mg μ H xs vs):eO K mg μ H (dU 0 xs) (IteT a) where
 goes:=fun i μ' H' hi st=>⟨vs,vs[i]'(by rw[dJ] at hi; rw[←r.length]; exact hi),(c6 st h n).1,zqS⟩
 stops:=fun μ' H' st=>⟨vs,(c6 st h n).1,by rw[dJ,r.length]⟩
 yields:=fun i d μ' H' S x H2 e st rs y=>by
  obtain ⟨T,w,rfl,hT,rfl,y⟩:=y
  obtain ⟨d',h1,h2⟩:=jI _ _ _ _ e
  obtain ⟨v,h3,h4⟩:=r.get h1
  have q:=y vs ((c6 st h n).1)
  rw[h3] at q; cases q
  subst h2
  exact ⟨.upd hT,bh rs hT (.cons (by rw[Nat.zero_add]; exact bK _) (.cons (Rep.stp st _ _ h4) .nil))⟩
theorem ny {K:PySem.W.Frag} {mg:Str→Option Value} {μ:Mu} {H:Hp} {a:Addr} {xs:List D} {vs:List V} (h:L2.SqL K H a vs) (hs:∀μ' H',Stp μ H μ' H'→L2.SqL K H' a vs) (r:RepAll K mg μ H xs vs):eO K mg μ H (dU 0 xs) (Ite K a) where
 goes:=fun i μ' H' hi st=>⟨vs,vs[i]'(by rw[dJ] at hi; rw[←r.length]; exact hi),hs _ _ st,zqS⟩
 stops:=fun μ' H' st=>⟨vs,hs _ _ st,by rw[dJ,r.length]; exact Nat.le_refl _⟩
 yields:=fun i d μ' H' S x H2 e st rs y=>by
  obtain ⟨T,w,rfl,hT,rfl,y⟩:=y
  obtain ⟨d',h1,h2⟩:=jI _ _ _ _ e
  obtain ⟨v,h3,h4⟩:=r.get h1
  have q:=y vs (hs _ _ st)
  rw[h3] at q; cases q
  subst h2
  exact ⟨.upd hT,bh rs hT (.cons (by rw[Nat.zero_add]; exact bK _) (.cons (Rep.stp st _ _ h4) .nil))⟩
def kQ (r:MA):MI:=fun env S=>(r env S).bind fun ds S=>match ds.map vt with
 | [.tup xs]=>.ok (.items (dU 0 xs)) S
 | [.lst xs]=>.ok (.items (dU 0 xs)) S
 | [.loc l]=>match S[l]? with
  | some (.lst _)=>.ok (.liveE l) S
  | _=>.stuck
 | _=>.stuck
theorem jJ {K:PySem.W.Frag} {mg:Str→Option Value} {μ:Mu} {H:Hp} {d0:D} {ds:List D} {vs:List V} (r:RepAll K mg μ H ds vs) (e:ds.map vt=[d0]):∃d v,ds=[d]∧vt d=d0∧vs=[v]∧Rep K mg μ H d v:=by
 match ds,e with
 | [d],e=>
  obtain ⟨v,rfl,r1⟩:=cP r
  exact ⟨d,v,rfl,by simpa using e,rfl,r1⟩
theorem kR {K:PySem.W.Frag} {mg:Str→Option Value} {μ:Mu} {H:Hp} {d0 d1:D} {ds:List D} {vs:List V} (r:RepAll K mg μ H ds vs) (e:ds.map vt=[d0,d1]):∃d d' v w,ds=[d,d']∧(vt d=d0∧vt d'=d1)∧vs=[v,w]∧Rep K mg μ H d v∧Rep K mg μ H d' w:=by
 match ds,e with
 | [d,d'],e=>
  obtain ⟨v,w,rfl,r1,r2⟩:=gr r
  exact ⟨d,d',v,w,rfl,by simpa using e,rfl,r1,r2⟩
theorem qk {tpos:Pos} {elts:List Expr} {kk:Nat} (hg:Gl X "enumerate") (hm:X.mg "enumerate"=none) (ha:PA X [e] (tAs X W r)) (hs:starEach [e] X.env=[(false,eval e X.env)]:=by rfl) :
  PI X (.Tuple elts kk tpos) (.Call (.Name "enumerate" p) [e] [] pos) (tI X W (kQ r)):=by
 refine ⟨fun pins s σ H R I ⟨env,S,μ,rl,o⟩=>?_⟩
 refine Call_ (ld_blt I hg hm boot_enumerate (PyProof.Rows.callWith_type1 (thn (ha.run pos pins s σ H _ I ⟨env,S,μ,rl,Out.bind o⟩) fun us s1 ⟨vs,H1,I1,r1,μ1,S1,ds,st,rs,rd,o1⟩=>?_) hs rfl))
 have fresh2:∀b∈[s1.heap.objs.size+1,s1.heap.objs.size],FpOk X pins H1 b:=fun b hb=>by
  have e':b=s1.heap.objs.size+1∨b=s1.heap.objs.size:=by simpa using hb
  have hle:s1.heap.objs.size≤b:=by
   rcases e' with z|z
   ·rw[z]; exact Nat.le_add_right _ _
   ·rw[z]; exact Nat.le_refl _
  exact I1.fpOk hle (I1.hok.fresh hle)
 split at o1
 ·rename_i xs ev
  obtain ⟨d,v,rfl,ed,rfl,r2⟩:=jJ rd ev
  have r2:=r2.wv.vt
  rw[ed] at r2
  obtain ⟨a,ws,rfl,h1,h2,n⟩:=r2
  cases r1 with
  | cons ra rr=>
   cases rr
   cases ra
   obtain ⟨its,rv,p',hz⟩:=I1.tuple (.inl h1)
   refine PySem.dl_enum_begins (PySem.begins_tuple a its.toArray) (show s1.heap.IsTuple a its.toArray from p') fun h' he ho hsz hk=>wpAny_pyIter_enum he ?_
   have I2:L2.Inv X pins σ H1 { s1 with heap:=h' }:=I1.kept (t':=s1.toks) hk
   exact ⟨s1.heap.objs.size+1,[s1.heap.objs.size+1,s1.heap.objs.size],_,_,H1,rfl,I2,pP a (s1.heap.objs.size+1) s1.heap.objs.size,⟨⟨.none,he⟩,⟨_,ho,rfl,rfl⟩,Nat.succ_ne_self _⟩,fresh2,o1 _ _ _ .refl rs (nw h1 n h2)⟩
 ·rename_i xs ev
  obtain ⟨d,v,rfl,ed,rfl,r2⟩:=jJ rd ev
  rw[ji ed nofun] at r2
  unfold Rep at r2
  obtain ⟨a,ws,rfl,h1,n,h2⟩:=r2
  cases r1 with
  | cons ra rr=>
   cases rr
   cases ra
   obtain ⟨its,rv,p',hz⟩:=I1.list (.of h1)
   refine call_enumerate_list p'.isList fun h' he hit hsz hk=>wpAny_pyIter_enum he ?_
   have I2:L2.Inv X pins σ H1 { s1 with heap:=h' }:=I1.kept (t':=s1.toks) hk
   exact ⟨s1.heap.objs.size+1,[s1.heap.objs.size+1,s1.heap.objs.size],_,_,H1,rfl,I2,turn_enum a (s1.heap.objs.size+1) s1.heap.objs.size,⟨⟨.none,he⟩,hit,Nat.succ_ne_self _⟩,fresh2,o1 _ _ _ .refl rs (ny (.of h1) (fun _ _ st=>.of (st.keep _ _ h1 n)) h2)⟩
 ·rename_i l ev
  obtain ⟨d,v,rfl,ed,rfl,r2⟩:=jJ rd ev
  rw[ji ed nofun] at r2
  unfold Rep at r2
  obtain ⟨a,rfl,ha⟩:=r2
  split at o1
  ·rename_i xs es
   obtain ⟨a',g1,ws,h1,h2⟩:=rs.at_ _ _ es
   rw[ha] at g1; cases g1
   cases r1 with
   | cons ra rr=>
    cases rr
    cases ra
    obtain ⟨its,rv,p',hz⟩:=I1.list (.of h1)
    refine call_enumerate_list p'.isList fun h' he hit hsz hk=>wpAny_pyIter_enum he ?_
    have I2:L2.Inv X pins σ H1 { s1 with heap:=h' }:=I1.kept (t':=s1.toks) hk
    exact ⟨s1.heap.objs.size+1,[s1.heap.objs.size+1,s1.heap.objs.size],_,_,H1,rfl,I2,turn_enum a (s1.heap.objs.size+1) s1.heap.objs.size,⟨⟨.none,he⟩,hit,Nat.succ_ne_self _⟩,fresh2,o1 _ _ _ .refl rs ⟨a,ha,rfl⟩⟩
  ·exact o1.elim
 ·exact o1.elim
def eA:List D→List D→List D
 | a::as,b::bs=>.tup [a,b]::eA as bs
 | _,_=>[]
theorem kS:∀(as bs:List D) (i:Nat) (d:D),(eA as bs)[i]?=some d→∃a b,as[i]?=some a∧bs[i]?=some b∧d=.tup [a,b]
 | [],_,i,d,h=>by simp[eA] at h
 | a::as,[],i,d,h=>by simp[eA] at h
 | a::as,b::bs,0,d,h=>by
  simp[eA] at h
  exact ⟨a,b,rfl,rfl,h.symm⟩
 | a::as,b::bs,i+1,d,h=>by
  have h:(eA as bs)[i]?=some d:=by simpa [eA] using h
  obtain ⟨x,y,h1,h2,h3⟩:=kS as bs i d h
  exact ⟨x,y,by simpa using h1,by simpa using h2,h3⟩
theorem dk:∀(as bs:List D),(eA as bs).length=min as.length bs.length
 | [],_=>by simp[eA]
 | a::as,[]=>by simp[eA]
 | a::as,b::bs=>by simp[eA,dk as bs]
theorem pR {K:PySem.W.Frag} {mg:Str→Option Value} {μ:Mu} {H:Hp} {a b:Addr} {xs ys:List D} {vs ws:List V} (h:Rd H a (.tup vs)) (n:a∉μ) (r:RepAll K mg μ H xs vs) (h':Rd H b (.tup ws)) (n':b∉μ) (r':RepAll K mg μ H ys ws) :
  eO K mg μ H (eA xs ys) (RZ.ItzT K a b) where
 goes:=fun i μ' H' hi st=>by
  rw[dk] at hi
  have h1:i<vs.length:=by rw[←r.length]; omega
  have h2:i<ws.length:=by rw[←r'.length]; omega
  exact ⟨vs,ws,vs[i],ws[i],.inl (c6 st h n).1,.inl (c6 st h' n').1,zqS,zqS⟩
 stops:=fun μ' H' st=>⟨vs,ws,.inl (c6 st h n).1,.inl (c6 st h' n').1,by rw[dk,←r.length,←r'.length]; omega⟩
 yields:=fun i d μ' H' S x H2 e st rs y=>by
  obtain ⟨T,w1,w2,rfl,hT,rfl,y1,y2⟩:=y
  obtain ⟨da,db,e1,e2,rfl⟩:=kS _ _ _ _ e
  obtain ⟨u1,g1,k1⟩:=r.get e1
  obtain ⟨u2,g2,k2⟩:=r'.get e2
  have q1:=y1 vs (.inl (c6 st h n).1)
  have q2:=y2 ws (.inl (c6 st h' n').1)
  rw[g1] at q1; cases q1
  rw[g2] at q2; cases q2
  exact ⟨.upd hT,bh rs hT (.cons (Rep.stp st _ _ k1) (.cons (Rep.stp st _ _ k2) .nil))⟩
theorem pS {K:PySem.W.Frag} {mg:Str→Option Value} {μ:Mu} {H:Hp} {a b:Addr} {xs ys:List D} {vs ws:List V} (h:H a=some (.lst vs)) (n:a∉μ) (r:RepAll K mg μ H xs vs) (h':H b=some (.lst ws)) (n':b∉μ) (r':RepAll K mg μ H ys ws) :
  eO K mg μ H (eA xs ys) (Itz K a b) where
 goes:=fun i μ' H' hi st=>by
  rw[dk] at hi
  have h1:i<vs.length:=by rw[←r.length]; omega
  have h2:i<ws.length:=by rw[←r'.length]; omega
  exact ⟨vs,ws,vs[i],ws[i],.of (st.keep _ _ h n),.of (st.keep _ _ h' n'),zqS,zqS⟩
 stops:=fun μ' H' st=>⟨vs,ws,.of (st.keep _ _ h n),.of (st.keep _ _ h' n'),by rw[dk,←r.length,←r'.length]; omega⟩
 yields:=fun i d μ' H' S x H2 e st rs y=>by
  obtain ⟨T,w1,w2,rfl,hT,rfl,y1,y2⟩:=y
  obtain ⟨da,db,e1,e2,rfl⟩:=kS _ _ _ _ e
  obtain ⟨u1,g1,k1⟩:=r.get e1
  obtain ⟨u2,g2,k2⟩:=r'.get e2
  have q1:=y1 vs (.of (st.keep _ _ h n))
  have q2:=y2 ws (.of (st.keep _ _ h' n'))
  rw[g1] at q1; cases q1
  rw[g2] at q2; cases q2
  exact ⟨.upd hT,bh rs hT (.cons (Rep.stp st _ _ k1) (.cons (Rep.stp st _ _ k2) .nil))⟩
def ql (r:MA):MI:=fun env S=>(r env S).bind fun ds S=>match ds.map vt with
 | [.tup xs,.tup ys]=>.ok (.items (eA xs ys)) S
 | [.lst xs,.lst ys]=>.ok (.items (eA xs ys)) S
 | _=>.stuck
theorem pI_zip {tpos:Pos} {elts:List Expr} {kk:Nat} {e2:Expr} (hg:Gl X "zip") (hm:X.mg "zip"=none) (ha:PA X [e,e2] (tAs X W r))
  (hs:starEach [e,e2] X.env=(false,eval e X.env)::starEach [e2] X.env:=by rfl) (hpl:(backTo pos (starEach [e2] X.env)).any (·.1)=false:=by rfl) :
  PI X (.Tuple elts kk tpos) (.Call (.Name "zip" p) [e,e2] [] pos) (tI X W (ql r)):=
 pi_to (RZ.pi_zipA hg hm ha hs hpl) fun σ H R ⟨env,S,μ,rl,o⟩=>⟨env,S,μ,rl,(Out.bind o).mono fun vs H1 ⟨μ1,S1,ds,st,rs,rd,o1⟩=>by
  split at o1
  ·rename_i ev
   obtain ⟨d,d',v,w,rfl,⟨e1,e2⟩,rfl,r1,r2⟩:=kR rd ev
   have r1:=r1.wv.vt
   have r2:=r2.wv.vt
   rw[e1] at r1
   rw[e2] at r2
   obtain ⟨a,va,rfl,h1,l1,n1⟩:=r1
   obtain ⟨b,vb,rfl,h2,l2,n2⟩:=r2
   exact ⟨a,b,va,vb,rfl,.inr ⟨.inl h1,.inl h2,o1 _ _ _ .refl rs (pR h1 n1 l1 h2 n2 l2)⟩⟩
  ·rename_i ev
   obtain ⟨d,d',v,w,rfl,⟨e1,e2⟩,rfl,r1,r2⟩:=kR rd ev
   rw[ji e1 nofun] at r1
   rw[ji e2 nofun] at r2
   unfold Rep at r1 r2
   obtain ⟨a,va,rfl,h1,n1,l1⟩:=r1
   obtain ⟨b,vb,rfl,h2,n2,l2⟩:=r2
   exact ⟨a,b,va,vb,rfl,.inl ⟨.of h1,.of h2,o1 _ _ _ .refl rs (pS h1 n1 l1 h2 n2 l2)⟩⟩
  ·exact o1.elim⟩
def gX (g:MG) (b:MS):List D→MS
 | []=>fun env S=>.next env S
 | d::ds=>fun env S=>match g d env S with
  | none=>.stuck
  | some p=>match b p.1 p.2 with
   | .next env S=>gX g b ds env S
   | .cont env S=>gX g b ds env S
   | .brk env S=>.next env S
   | .ret d S=>.ret d S
   | .exc e env S=>.exc e env S
   | .stuck=>.stuck
def jj (g:MG) (b:MS) (l:Nat):Nat→Nat→MS
 | 0,_=>fun _ _=>.stuck
 | n+1,i=>fun env S=>match S[l]? with
  | some (.lst xs)=>match xs[i]? with
   | none=>.next env S
   | some d=>match g d env S with
    | none=>.stuck
    | some p=>match b p.1 p.2 with
     | .next env S=>jj g b l n (i+1) env S
     | .cont env S=>jj g b l n (i+1) env S
     | .brk env S=>.next env S
     | .ret d S=>.ret d S
     | .exc e env S=>.exc e env S
     | .stuck=>.stuck
  | _=>.stuck
/-- with the places,the first one 0 -/
def jk (g:MG) (b:MS) (l:Nat):Nat→Nat→MS
 | 0,_=>fun _ _=>.stuck
 | n+1,i=>fun env S=>match S[l]? with
  | some (.lst xs)=>match xs[i]? with
   | none=>.next env S
   | some d=>match g (.tup [.int (i:Nat),d]) env S with
    | none=>.stuck
    | some p=>match b p.1 p.2 with
     | .next env S=>jk g b l n (i+1) env S
     | .cont env S=>jk g b l n (i+1) env S
     | .brk env S=>.next env S
     | .ret d S=>.ret d S
     | .exc e env S=>.exc e env S
     | .stuck=>.stuck
  | _=>.stuck
def ie (S:Sto) (l:Nat):Nat:=match S[l]? with
 | some (.lst xs)=>xs.length
 | _=>0
def jK (mi:MI) (g:MG) (b:MS):MS:=fun env S=>(mi env S).rs env fun it S=>match it with
 | .items ds=>gX g b ds env S
 | .live l=>jj g b l (ie S l+1) 0 env S
 | .liveE l=>jk g b l (ie S l+1) 0 env S
theorem fS {iter:Expr} {body:List Stmt} {mi:MI} {g:MG} {b:MS} (hp:PassesOwn (model X.prog X.w) X.A X.env X.xe) (hc:X.calm=true) (hi:PI X tg iter (tI X W mi)) (hg:PG X tg (tG X g)) (hb:PSs X body (tS X W b))
  (hs:∀x,foldedSetIterable iter X.env x=pure x:=by intro _; rfl):PS X (.For tg iter body [] pos) (tS X W (jK mi g b)):=
 gU (ps_for hp hc hi hg hb hs) fun D σ H ⟨env,S,μ,rl,o⟩=>⟨env,S,μ,rl,(OutS.rs rl.env o).mono fun J H1 ⟨μ1,S1,it,st,rs,rd,o1⟩=>by
  cases it with
  | items ds=>
   have rd:eO X.K X.mg μ1 H1 ds J:=rd
   refine ⟨fun i n σ H=>n+i=ds.length∧∃env S μ,Step μ1 H1 μ H∧Rl X.K X.mg μ H env σ S∧OutS X.K X.mg W μ H D (gX g b (ds.drop i) env S),⟨ds.length,rfl,env,S1,μ1,.refl,⟨rl.env.step st,rs⟩,o1⟩,?_⟩
   rintro i n σ H ⟨hn,env,S,μ,st1,rl,o⟩
   by_cases hi:i<ds.length
   ·have ed:ds.drop i=ds[i]::ds.drop (i+1):=List.drop_eq_getElem_cons hi
    rw[ed] at o
    unfold gX at o
    refine .inr ⟨rd.goes i μ H hi st1.toStp,fun σ H=>∃env S μ,Step μ1 H1 μ H∧Rl X.K X.mg μ H env σ S∧OutS X.K X.mg W μ H D (gX g b (ds.drop (i+1)) env S),fun σ' H' w=>⟨n - 1,zqO,zqO,w⟩,fun x H' y=>?_⟩
    obtain ⟨sm,rx⟩:=rd.yields i _ μ H S x H' (List.getElem?_eq_getElem hi) st1.toStp rl.sto y
    have stx:Step μ H μ H':=.of_sm sm
    refine ⟨env,S,μ,_,rl.sm sm,rx,?_⟩
    cases hg:g ds[i] env S with
    | none=>rw[hg] at o; exact o.elim
    | some p=>
     rw[hg] at o
     refine fun μ2 H2 σ2 st2 re2 rs2=>⟨p.1,p.2,μ2,⟨re2,rs2⟩,?_⟩
     have o:=OutS.of_step (stx.trans st2) o
     cases hb:b p.1 p.2 with
     | next e S=>simp only[hb] at o; exact fun μ' H' σ' s t u=>⟨e,S,μ',((st1.trans stx).trans st2).trans s,⟨t,u⟩,OutS.of_step s o⟩
     | cont e S=>simp only[hb] at o; exact fun μ' H' σ' s t u=>⟨e,S,μ',((st1.trans stx).trans st2).trans s,⟨t,u⟩,OutS.of_step s o⟩
     | brk e S=>simp only[hb] at o; exact o
     | ret d S=>simp only[hb] at o; exact o
     | exc e v S=>simp only[hb] at o; exact o
     | stuck=>simp only[hb] at o; exact o
   ·have e:i=ds.length:=zqO
    subst e
    rw[List.drop_length] at o
    exact .inl ⟨rd.stops μ H st1.toStp,o μ H σ .refl rl.env rl.sto⟩
  | live l=>
   obtain ⟨a,ha,rfl⟩:=rd
   refine ⟨fun i n σ H=>∃env S μ,Step μ1 H1 μ H∧Rl X.K X.mg μ H env σ S∧OutS X.K X.mg W μ H D (jj g b l n i env S),⟨_,env,S1,μ1,.refl,⟨rl.env.step st,rs⟩,o1⟩,?_⟩
   rintro i n σ H ⟨env,S,μ,st1,rl,o⟩
   cases n with
   | zero=>exact o.elim
   | succ n=>
    unfold jj at o
    split at o
    ·rename_i xs es
     obtain ⟨a',h1,vs,h2,h3⟩:=rl.sto.at_ _ _ es
     rw[st1.get ha] at h1; cases h1
     split at o
     ·rename_i hx
      refine .inl ⟨⟨vs,.of h2,?_⟩,o μ H σ .refl rl.env rl.sto⟩
      rw[←h3.length]
      exact List.getElem?_eq_none_iff.mp hx
     ·rename_i d hx
      obtain ⟨v,hv,rv⟩:=h3.get hx
      refine .inr ⟨⟨vs,v,.of h2,hv⟩,fun σ H=>∃env S μ,Step μ1 H1 μ H∧Rl X.K X.mg μ H env σ S∧OutS X.K X.mg W μ H D (jj g b l n (i+1) env S),fun σ' H' w=>⟨n,Nat.lt_succ_self n,w⟩,fun x H' y=>?_⟩
      obtain ⟨rfl,y⟩:=y
      have q:=y vs (.of h2)
      rw[hv] at q; cases q
      refine ⟨env,S,μ,_,rl,rv,?_⟩
      cases hg:g d env S with
      | none=>rw[hg] at o; exact o.elim
      | some p=>
       rw[hg] at o
       refine fun μ2 H2 σ2 st2 re2 rs2=>⟨p.1,p.2,μ2,⟨re2,rs2⟩,?_⟩
       have o:=OutS.of_step st2 o
       cases hb:b p.1 p.2 with
       | next e S=>simp only[hb] at o; exact fun μ' H' σ' s t u=>⟨e,S,μ',(st1.trans st2).trans s,⟨t,u⟩,OutS.of_step s o⟩
       | cont e S=>simp only[hb] at o; exact fun μ' H' σ' s t u=>⟨e,S,μ',(st1.trans st2).trans s,⟨t,u⟩,OutS.of_step s o⟩
       | brk e S=>simp only[hb] at o; exact o
       | ret d S=>simp only[hb] at o; exact o
       | exc e v S=>simp only[hb] at o; exact o
       | stuck=>simp only[hb] at o; exact o
    ·exact o.elim
  | liveE l=>
   obtain ⟨a,ha,rfl⟩:=rd
   refine ⟨fun i n σ H=>∃env S μ,Step μ1 H1 μ H∧Rl X.K X.mg μ H env σ S∧OutS X.K X.mg W μ H D (jk g b l n i env S),⟨_,env,S1,μ1,.refl,⟨rl.env.step st,rs⟩,o1⟩,?_⟩
   rintro i n σ H ⟨env,S,μ,st1,rl,o⟩
   cases n with
   | zero=>exact o.elim
   | succ n=>
    unfold jk at o
    split at o
    ·rename_i xs es
     obtain ⟨a',h1,vs,h2,h3⟩:=rl.sto.at_ _ _ es
     rw[st1.get ha] at h1; cases h1
     split at o
     ·rename_i hx
      refine .inl ⟨⟨vs,.of h2,?_⟩,o μ H σ .refl rl.env rl.sto⟩
      rw[←h3.length]
      exact List.getElem?_eq_none_iff.mp hx
     ·rename_i d hx
      obtain ⟨v,hv,rv⟩:=h3.get hx
      refine .inr ⟨⟨vs,v,.of h2,hv⟩,fun σ H=>∃env S μ,Step μ1 H1 μ H∧Rl X.K X.mg μ H env σ S∧OutS X.K X.mg W μ H D (jk g b l n (i+1) env S),fun σ' H' w=>⟨n,Nat.lt_succ_self n,w⟩,fun x H' y=>?_⟩
      obtain ⟨T,w,rfl,hT,rfl,y⟩:=y
      have q:=y vs (.of h2)
      rw[hv] at q; cases q
      have sm:Sm H (upd H T (.tup [.int (i:Int),v])):=.upd hT
      have stx:Step μ H μ (upd H T (.tup [.int (i:Int),v])):=.of_sm sm
      have rx:Rep X.K X.mg μ (upd H T (.tup [.int (i:Int),v])) (.tup [.int (i:Nat),d]) (.ref T):=bh rl.sto hT (.cons (bK _) (.cons rv .nil))
      refine ⟨env,S,μ,_,rl.sm sm,rx,?_⟩
      cases hg:g (.tup [.int (i:Nat),d]) env S with
      | none=>rw[hg] at o; exact o.elim
      | some p=>
       rw[hg] at o
       refine fun μ2 H2 σ2 st2 re2 rs2=>⟨p.1,p.2,μ2,⟨re2,rs2⟩,?_⟩
       have o:=OutS.of_step (stx.trans st2) o
       cases hb:b p.1 p.2 with
       | next e S=>simp only[hb] at o; exact fun μ' H' σ' s t u=>⟨e,S,μ',((st1.trans stx).trans st2).trans s,⟨t,u⟩,OutS.of_step s o⟩
       | cont e S=>simp only[hb] at o; exact fun μ' H' σ' s t u=>⟨e,S,μ',((st1.trans stx).trans st2).trans s,⟨t,u⟩,OutS.of_step s o⟩
       | brk e S=>simp only[hb] at o; exact o
       | ret d S=>simp only[hb] at o; exact o
       | exc e v S=>simp only[hb] at o; exact o
       | stuck=>simp only[hb] at o; exact o
    ·exact o.elim⟩
end
def aa (env:En):List Nat→En
 | []=>env
 | v::vs=>(aa env vs).set v none
theorem dL (env:En):∀vs:List Nat,(aa env vs).length=env.length
 | []=>rfl
 | v::vs=>by unfold aa; rw[List.length_set,dL env vs]
theorem iQ {env:En} {i:Nat} {x:D}:∀ {vs:List Nat},(aa env vs)[i]?=some (some x)→env[i]?=some (some x)∧i∉vs
 | [],h=>⟨h,zqS⟩
 | v::vs,h=>by
  unfold aa at h
  by_cases hi:v=i
  ·subst hi
   by_cases hv:v<(aa env vs).length
   ·rw[List.getElem?_set_self hv] at h; cases h
   ·rw[List.getElem?_eq_none (by simpa using hv)] at h; cases h
  ·rw[List.getElem?_set_ne hi] at h
   obtain ⟨h1,h2⟩:=iQ h
   exact ⟨h1,by simp only[List.mem_cons,not_or]; exact ⟨fun e=>hi e.symm,h2⟩⟩
theorem RelE.wipe {K:PySem.W.Frag} {mg:Str→Option Value} {μ:Mu} {H:Hp} {env:En} {σ:L2.St} (h:RelE K mg μ H env σ) (vs:List Nat):RelE K mg μ H (aa env vs) (L2.wipe σ vs):=by
 refine ⟨by rw[dL,wipe_length]; exact h.len,fun i d e=>?_⟩
 obtain ⟨h1,h2⟩:=iQ e
 obtain ⟨v,h3,h4⟩:=h.at_ i d h1
 exact ⟨v,by rw[wipe_out h2]; exact h3,h4⟩
theorem ii {σ:L2.St} {i:Nat} {v:Option V}:∀ {vs:List Nat},i∈vs→L2.wipe (σ.set i v) vs=L2.wipe σ vs
 | [],h=>by cases h
 | j::vs,h=>by
  unfold L2.wipe
  by_cases hj:j=i
  ·subst hj
   by_cases hm:j∈vs
   ·rw[ii hm]
   ·have:∀(ws:List Nat) (τ:L2.St),j∉ws→L2.wipe (τ.set j v) ws=(L2.wipe τ ws).set j v:=by
     intro ws
     induction ws with
     | nil=>intro τ _; rfl
     | cons k ws ih=>
      intro τ hk
      rw[List.mem_cons,not_or] at hk
      unfold L2.wipe
      rw[ih τ hk.2,List.set_comm _ _ hk.1]
    rw[this vs σ hm,List.set_set]
  ·have hm:i∈vs:=by
    rcases List.mem_cons.mp h with e|e
    ·exact absurd e.symm hj
    ·exact e
   rw[ii hm]
def tGc (X:Cx) (vs:List Nat) (g:MG):TG:=fun v σ H Q=>∃env S μ d,Rl X.K X.mg μ H env σ S∧Rep X.K X.mg μ H d v∧OutO X.K X.mg μ H (fun σ' H'=>L2.wipe σ' vs=L2.wipe σ vs→Q σ' H') (g d env S)
def tGcs (X:Cx) (vs:List Nat) (g:MGs):TGs:=fun us σ H Q=>∃env S μ ds,Rl X.K X.mg μ H env σ S∧RepAll X.K X.mg μ H ds us∧OutO X.K X.mg μ H (fun σ' H'=>L2.wipe σ' vs=L2.wipe σ vs→Q σ' H') (g ds env S)
theorem OutO.mono {K:PySem.W.Frag} {mg:Str→Option Value} {μ:Mu} {H:Hp} {Q Q':L2.St→Hp→Prop} {r:Option (En × Sto)} (o:OutO K mg μ H Q r) (h:∀σ H,Q σ H→Q' σ H):OutO K mg μ H Q' r:=by
 cases r with
 | none=>exact o
 | some p=>exact fun μ' H' σ' s t u=>h _ _ (o μ' H' σ' s t u)
section
variable {X:Cx} {W:WX} {e tg iter elt:Expr} {pos:Pos} {g:MG} {m:ME} {mi:MI} {tc:MT} {vs:List Nat}
theorem bL {i:Nat} {x:Str} (hN:X.N.Nodup) (hi:X.N[i]?=some x) (hx:Loc X.env.scope x) (hv:i∈vs) (hf:X.fn x=true∨X.env.scope.names.lookup x=some .local:=by first|exact .inl rfl|exact .inr rfl|assumption):PG X (.Name x pos) (tGc X vs (gV i)):=
 nk (pg_name hN hi hx hf) fun v σ H Q ⟨env,S,μ,d,rl,r,o⟩=>o μ H _ .refl (rl.env.set r) rl.sto (ii hv)
theorem mV:PGs X [] (tGcs X vs gW):=mS pgs_nil fun us σ H Q ⟨env,S,μ,ds,rl,r,o⟩=>by
 cases ds with
 | nil=>unfold RepAll at r; exact ⟨r,o μ H σ .refl rl.env rl.sto rfl⟩
 | cons a b=>exact o.elim
theorem fX {es:List Expr} {gs:MGs} (h1:PG X e (tGc X vs g)) (h2:PGs X es (tGcs X vs gs))
  (hs:(assignEach (e::es) X.env).map (·.2)=assign e X.env::(assignEach es X.env).map (·.2):=by rfl):PGs X (e::es) (tGcs X vs (bY g gs)):=
 mS (pgs_cons h1 h2 hs) fun us σ H Q ⟨env,S,μ,ds,rl,r,o⟩=>by
  cases ds with
  | nil=>exact o.elim
  | cons d ds=>
   unfold RepAll at r
   obtain ⟨v,q,rfl,r1,r2⟩:=r
   refine ⟨v,q,rfl,env,S,μ,d,rl,r1,?_⟩
   have o:OutO X.K X.mg μ H _ ((g d env S).bind fun p=>gs ds p.1 p.2):=o
   cases hq:g d env S with
   | none=>rw[hq] at o; exact o.elim
   | some p=>
    rw[hq] at o
    exact fun μ' H' σ' s t u w=>⟨p.1,p.2,μ',ds,⟨t,u⟩,RepAll.step s _ _ r2,(OutO.of_step s o).mono fun σ2 H2 f w2=>f (w2.trans w)⟩
theorem pT {es:List Expr} {k:Nat} {n:Nat} {gs:MGs} (hc:X.calm=true) (h:PGs X es (tGcs X vs gs))
  (hn:(assignEach es X.env).length=n:=by rfl) (hst:(assignEach es X.env).findIdx? (·.1)=none:=by rfl):PG X (.Tuple es k pos) (tGc X vs (fW n gs)):=
 nk (pg_tup hc h hn hst) fun v σ H Q ⟨env,S,μ,d,rl,r,o⟩=>by
  unfold fW at o
  split at o
  ·rename_i ds ev
   by_cases hl:ds.length=n
   ·simp only[hl,if_true] at o
    have w:=r.wv.vt
    rw[ev] at w
    obtain ⟨a,vs,rfl,h1,h2,_⟩:=w
    exact ⟨a,vs,rfl,.inl h1,by rw[←h2.length]; exact hl,env,S,μ,ds,rl,h2,o⟩
   ·simp only[hl,if_false] at o; exact o.elim
  ·exact o.elim
def Res.bindS {α β:Type}:Res α→(α→Sto→Res β)→Res β
 | .ok a S,f=>f a S
 | _,_=>.stuck
theorem Out.bindS {α β α' β':Type} {K:PySem.W.Frag} {mg:Str→Option Value} {μ:Mu} {H:Hp} {W W0:WX} {σ σ':L2.St} {R:Mu→Hp→α→β→Prop} {R':Mu→Hp→α'→β'→Prop} {Q:β'→Hp→Prop} {r:Res α} {f:α→Sto→Res α'} (o:Out K mg W σ μ H R' Q (r.bindS f)) :
  Out K mg W0 σ' μ H R (fun b H1=>∃μ1 S1 a,Step μ H μ1 H1∧RelS K mg μ1 H1 S1∧R μ1 H1 a b∧Out K mg W σ μ1 H1 R' Q (f a S1)) r:=by
 cases r with
 | ok a S=>exact fun μ' H' b s t u=>⟨μ',S,a,s,t,u,Out.of_step s o⟩
 | exc e S=>exact o.elim
 | stuck=>exact o
/-- one turn: the items made so far,behind it -/
def iG (g:MG) (tc:MT) (m:ME) (w:En) (d:D) (acc:List D) (S:Sto):Res (List D):=match g d w S with
 | none=>.stuck
 | some p=>(tc p.1 p.2).bindS fun c S2=>if c=true then (m p.1 S2).bindS fun v S3=>if acc.length<1000000 then .ok (acc++[v]) S3 else .stuck else .ok acc S2
def dM (g:MG) (tc:MT) (m:ME) (w:En):List D→List D→Sto→Res (List D)
 | [],acc,S=>.ok acc S
 | d::ds,acc,S=>(iG g tc m w d acc S).bindS fun acc S=>dM g tc m w ds acc S
def kT (g:MG) (tc:MT) (m:ME) (w:En) (l:Nat):Nat→Nat→List D→Sto→Res (List D)
 | 0,_,_,_=>.stuck
 | n+1,i,acc,S=>match S[l]? with
  | some (.lst xs)=>match xs[i]? with
   | none=>.ok acc S
   | some d=>(iG g tc m w d acc S).bindS fun acc S=>kT g tc m w l n (i+1) acc S
  | _=>.stuck
def kU (g:MG) (tc:MT) (m:ME) (w:En) (l:Nat):Nat→Nat→List D→Sto→Res (List D)
 | 0,_,_,_=>.stuck
 | n+1,i,acc,S=>match S[l]? with
  | some (.lst xs)=>match xs[i]? with
   | none=>.ok acc S
   | some d=>(iG g tc m w (.tup [.int (i:Nat),d]) acc S).bindS fun acc S=>kU g tc m w l n (i+1) acc S
  | _=>.stuck
def gY (mi:MI) (g:MG) (tc:MT) (m:ME) (vs:List Nat):MA:=fun env S=>(mi env S).bind fun it S=>match it with
 | .items ds=>dM g tc m (aa env vs) ds [] S
 | .live l=>kT g tc m (aa env vs) l (ie S l+1) 0 [] S
 | .liveE l=>kU g tc m (aa env vs) l (ie S l+1) 0 [] S
def cE (mi:MI) (g:MG) (tc:MT) (m:ME) (vs:List Nat):ME:=fun env S=>(gY mi g tc m vs env S).bind fun ds S=>.ok (.lst ds) S
def tJ (mi:MI) (g:MG) (tc:MT) (m:ME) (vs:List Nat):ME:=fun env S=>(gY mi g tc m vs env S).bind fun ds S=>.ok (.loc S.length) (S++[.lst ds])
abbrev W0:WX:=fun _ _ _ _=>False
def b5:MT:=fun _ S=>.ok true S
def PTs' (X:Cx) (ifs:List Expr) (tc:MT):Prop:=PTs X ifs (tT X W0 tc)
theorem cG:PTs' X [] b5:=⟨fun pins s σ H Q I ⟨env,S,μ,rl,o⟩=>pts_nil.run pins s σ H Q I (o μ H true .refl rl.sto rfl)⟩
theorem j6 {c:Expr} (h:PT X c (tT X W0 tc)):PTs' X [c] tc:=pts_one h
/-- what a comprehension gives -/
def RL (K:PySem.W.Frag) (mg:Str→Option Value) (μ:Mu) (H:Hp) (ds:List D) (v:V):Prop:=∃p us,v=.ref p∧H p=some (.lst us)∧p∉μ∧RepAll K mg μ H ds us
theorem jL:∀(ws vs:List Nat) (τ:L2.St),(∀i∈ws,i∈vs)→L2.wipe (L2.wipe τ ws) vs=L2.wipe τ vs
 | [],vs,τ,_=>rfl
 | k::ws,vs,τ,hk=>by
  show L2.wipe ((L2.wipe τ ws).set k none) vs=_
  rw[ii (hk k List.mem_cons_self)]
  exact jL ws vs τ fun i hi=>hk i (List.mem_cons_of_mem _ hi)
/-- what stays,but what is being made at p -/
structure StP (p:Addr) (μ:Mu) (H:Hp) (μ':Mu) (H':Hp):Prop extends Stp μ H μ' H' where
 hid:μ'.h=μ.h
 hk:∀a u,a≠p→a∈μ.h→H a=some u→NTb u→H' a=some u
theorem StP.of {p:Addr} {μ μ':Mu} {H H':Hp} (s:Step μ H μ' H'):StP p μ H μ' H':=⟨s.toStp,s.hid,fun a u _ h e t=>s.hk a u h e t⟩
theorem StP.trans {p:Addr} {μ μ' μ2:Mu} {H H' H2:Hp} (s:StP p μ H μ' H') (t:StP p μ' H' μ2 H2):StP p μ H μ2 H2:=⟨s.toStp.trans t.toStp,t.hid.trans s.hid,fun a u n h e nt=>t.hk a u n (by rw[s.hid]; exact h) (s.hk a u n h e nt) nt⟩
theorem StP.write {p:Addr} {μ:Mu} {H:Hp} {o:HO} (h:p∈μ.h) (nf:NF H p):StP p μ H μ (upd H p o):=⟨.write_hid h nf,rfl,fun a u n _ e _=>by rw[upd_ne n]; exact e⟩
/-- a turn's reading -/
theorem mW {W:WX} {vs:List Nat} {σ σo:L2.St} {w:En} {p:Addr} {Q:V→Hp→Prop} {μ1 μ2:Mu} {H1 H2:Hp} {S2:Sto} {d:D} {x:V} {acc:List D} {us:List V} {N:Hp→Prop} {f:List D→Sto→Res (List D)}
  (re:RelE X.K X.mg μ2 H2 w (L2.wipe σ vs)) (rs:RelS X.K X.mg μ2 H2 S2) (hp:H2 p=some (.lst us)) (np:p∈μ2.h) (ra:RepAll X.K X.mg μ2 H2 acc us) (rx:Rep X.K X.mg μ2 H2 d x)
  (o:Out X.K X.mg W σo μ1 H1 (RL X.K X.mg) Q ((iG g tc m w d acc S2).bindS f))
  (hN:∀μ3 H3 S3 acc' us',StP p μ2 H2 μ3 H3→RelS X.K X.mg μ3 H3 S3→H3 p=some (.lst us')→RepAll X.K X.mg μ3 H3 acc' us'→Out X.K X.mg W σo μ1 H1 (RL X.K X.mg) Q (f acc' S3)→N H3) :
  tGc X vs g x (L2.wipe σ vs) H2 fun σ2 H3=>L2.wipe σ2 vs=L2.wipe σ vs∧tT X W0 tc σ2 H3 fun b H4=>if b=true then tE X W0 m σ2 H4 fun y H5=>∃acc,H5 p=some (.lst acc)∧acc.length<sizeLine∧N (upd H5 p (.lst (acc++[y]))) else N H4:=by
 refine ⟨w,S2,μ2,d,⟨re,rs⟩,rx,?_⟩
 unfold iG at o
 cases hg:g d w S2 with
 | none=>simp only[hg,Res.bindS] at o; exact o.elim
 | some q=>
  obtain ⟨e,Se⟩:=q
  simp only[hg] at o
  intro μ3 H3 σ3 st3 re3 rs3 hw
  refine ⟨hw.trans (jL vs vs σ fun i hi=>hi),e,Se,μ3,⟨re3,rs3⟩,?_⟩
  have hp3:H3 p=some (.lst us):=st3.hk _ _ np hp
  have np3:p∈μ3.h:=by rw[st3.hid]; exact np
  have ra3:=RepAll.step st3 _ _ ra
  cases htc:tc e Se with
  | exc a b=>simp only[htc,Res.bindS] at o; exact o.elim
  | stuck=>simp only[htc,Res.bindS] at o; exact o.elim
  | ok c S4=>
   simp only[htc,Res.bindS] at o
   intro μ4 H4 b st4 rs4 hb
   subst hb
   have hp4:=st4.hk _ _ np3 hp3
   have np4:p∈μ4.h:=by rw[st4.hid]; exact np3
   have ra4:=RepAll.step st4 _ _ ra3
   cases b with
   | false=>
    simp only[Bool.false_eq_true,if_false] at o ⊢
    exact hN μ4 H4 S4 acc us (.of (st3.trans st4)) rs4 hp4 ra4 o
   | true=>
    simp only[if_true] at o ⊢
    refine ⟨e,S4,μ4,⟨re3.step st4,rs4⟩,?_⟩
    cases hm:m e S4 with
    | exc a b=>simp only[hm,Res.bindS] at o; exact o.elim
    | stuck=>simp only[hm,Res.bindS] at o; exact o.elim
    | ok v S5=>
     simp only[hm,Res.bindS] at o
     intro μ5 H5 y st5 rs5 ry
     have hp5:=st5.hk _ _ np4 hp4
     have np5:p∈μ5.h:=by rw[st5.hid]; exact np4
     have ra5:=RepAll.step st5 _ _ ra4
     by_cases hl:acc.length<1000000
     ·simp only[hl,if_true] at o
      have sw:StP p μ5 H5 μ5 (upd H5 p (.lst (us++[y]))):=.write np5 (.of hp5)
      refine ⟨us,hp5,?_,?_⟩
      ·rw[←ra.length,sizeLine_eq]; omega
      ·exact hN μ5 _ S5 (acc++[v]) (us++[y]) ((StP.of ((st3.trans st4).trans st5)).trans sw) (rs5.write_hid np5) upd_same
        (RepAll.stp sw.toStp _ _ (ra5.append (.cons ry .nil))) o
     ·simp only[hl,if_false] at o; exact o.elim
theorem pU {own:List (Str × Nat)} {σ:L2.St} {H:Hp} {Q:VK} {W:WX} (h:tM X (RL X.K X.mg) W (gY mi g tc m (own.map (·.2))) σ H Q) :
  tLc (tI X W mi) (tGc X (own.map (·.2)) g) (tT X W0 tc) (tE X W0 m) (own.map (·.2)) σ H Q:=by
 obtain ⟨env,S,μ,rl,o⟩:=h
 generalize own.map (·.2)=vs at *
 refine ⟨env,S,μ,rl,(Out.bind o).mono fun J H1 ⟨μ1,S1,it,st,rs,rd,o1⟩ p hp=>?_⟩
 have rw1:RelE X.K X.mg μ1 H1 (aa env vs) (L2.wipe σ vs):=(rl.env.step st).wipe vs
 generalize aa env vs=w at *
 -- where it begins
 have sh:Stp μ1 H1 (μ1.hide p) (upd H1 p (.lst [])):=.new_hid hp
 have fin:∀(μ2:Mu) (H2:Hp) (S2:Sto) (acc:List D) (us:List V),StP p (μ1.hide p) (upd H1 p (.lst [])) μ2 H2→RelS X.K X.mg μ2 H2 S2→H2 p=some (.lst us)→RepAll X.K X.mg μ2 H2 acc us→Out X.K X.mg W σ μ1 H1 (RL X.K X.mg) Q (.ok acc S2)→Q (.ref p) H2:=by
  intro μ2 H2 S2 acc us sp rs2 hp2 ra o
  have sub:∀a∈μ1.h,a∈μ2.h:=fun a ha=>by rw[sp.hid]; exact List.mem_cons_of_mem _ ha
  have su:Stp μ2 H2 ⟨μ2.l,μ1.h⟩ H2:=.unhide sub
  have np:p∉(⟨μ2.l,μ1.h⟩:Mu):=fun z=>z.elim (fun z=>rs2.dis p z (by rw[sp.hid]; exact List.mem_cons_self)) (rs.notinH hp)
  exact o ⟨μ2.l,μ1.h⟩ H2 (.ref p) ⟨(sh.trans sp.toStp).trans su,rfl,fun a u ha e nt=>sp.hk a u (ne_of_none e hp) (List.mem_cons_of_mem _ ha) (by rw[upd_ne (ne_of_none e hp)]; exact e) nt⟩ (rs2.unhide sub)
   ⟨p,us,rfl,hp2,np,RepAll.stp su _ _ ra⟩
 have npm:∀ {μ2:Mu} {H2:Hp},StP p (μ1.hide p) (upd H1 p (.lst [])) μ2 H2→p∈μ2.h:=fun sp=>by rw[sp.hid]; exact List.mem_cons_self
 have st0:StP p (μ1.hide p) (upd H1 p (.lst [])) (μ1.hide p) (upd H1 p (.lst [])):=.of .refl
 cases it with
 | items ds=>
  have rd:eO X.K X.mg μ1 H1 ds J:=rd
  refine ⟨fun i n H=>n+i=ds.length∧∃μ S acc us,StP p (μ1.hide p) (upd H1 p (.lst [])) μ H∧RelS X.K X.mg μ H S∧H p=some (.lst us)∧RepAll X.K X.mg μ H acc us∧Out X.K X.mg W σ μ1 H1 (RL X.K X.mg) Q (dM g tc m w (ds.drop i) acc S),
   ⟨ds.length,rfl,_,S1,[],[],st0,rs.hide hp,upd_same,.nil,o1⟩,?_⟩
  rintro i n H ⟨hn,μ,S,acc,us,sp,rs,hpp,ra,o⟩
  have sb:Stp μ1 H1 μ H:=sh.trans sp.toStp
  by_cases hi:i<ds.length
  ·have ed:ds.drop i=ds[i]::ds.drop (i+1):=List.drop_eq_getElem_cons hi
   rw[ed] at o
   unfold dM at o
   refine .inr ⟨rd.goes i μ H hi sb,fun H=>∃μ S acc us,StP p (μ1.hide p) (upd H1 p (.lst [])) μ H∧RelS X.K X.mg μ H S∧H p=some (.lst us)∧RepAll X.K X.mg μ H acc us∧Out X.K X.mg W σ μ1 H1 (RL X.K X.mg) Q (dM g tc m w (ds.drop (i+1)) acc S),fun H' w=>⟨n - 1,zqO,zqO,w⟩,fun x H' y=>?_⟩
   obtain ⟨sm,rx⟩:=rd.yields i _ μ H S x H' (List.getElem?_eq_getElem hi) sb rs y
   have sx:Step μ H μ H':=.of_sm sm
   have spx:=sp.trans (StP.of sx)
   refine mW ((rw1.stp sh).stp spx.toStp) (rs.sm sm) (sm _ _ hpp) (npm spx) (RepAll.step sx _ _ ra) rx o fun μ3 H3 S3 acc' us' s3 rs3 hp3 ra3 o3=>⟨μ3,S3,acc',us',spx.trans s3,rs3,hp3,ra3,o3⟩
  ·have e:i=ds.length:=zqO
   subst e
   rw[List.drop_length] at o
   exact .inl ⟨rd.stops μ H sb,fin μ H S acc us sp rs hpp ra o⟩
 | live l=>
  obtain ⟨a,ha,rfl⟩:=rd
  refine ⟨fun i n H=>∃μ S acc us,StP p (μ1.hide p) (upd H1 p (.lst [])) μ H∧RelS X.K X.mg μ H S∧H p=some (.lst us)∧RepAll X.K X.mg μ H acc us∧Out X.K X.mg W σ μ1 H1 (RL X.K X.mg) Q (kT g tc m w l n i acc S),
   ⟨_,_,S1,[],[],st0,rs.hide hp,upd_same,.nil,o1⟩,?_⟩
  rintro i n H ⟨μ,S,acc,us,sp,rs,hpp,ra,o⟩
  have sb:Stp μ1 H1 μ H:=sh.trans sp.toStp
  cases n with
  | zero=>exact o.elim
  | succ n=>
   unfold kT at o
   split at o
   ·rename_i xs es
    obtain ⟨a',h1,vs',h2,h3⟩:=rs.at_ _ _ es
    rw[sb.get ha] at h1; cases h1
    split at o
    ·rename_i hx
     refine .inl ⟨⟨vs',.of h2,?_⟩,fin μ H S acc us sp rs hpp ra o⟩
     rw[←h3.length]
     exact List.getElem?_eq_none_iff.mp hx
    ·rename_i d hx
     obtain ⟨v,hv,rv⟩:=h3.get hx
     refine .inr ⟨⟨vs',v,.of h2,hv⟩,fun H=>∃μ S acc us,StP p (μ1.hide p) (upd H1 p (.lst [])) μ H∧RelS X.K X.mg μ H S∧H p=some (.lst us)∧RepAll X.K X.mg μ H acc us∧Out X.K X.mg W σ μ1 H1 (RL X.K X.mg) Q (kT g tc m w l n (i+1) acc S),fun H' w=>⟨n,Nat.lt_succ_self n,w⟩,fun x H' y=>?_⟩
     obtain ⟨rfl,y⟩:=y
     have q:=y vs' (.of h2)
     rw[hv] at q; cases q
     exact mW ((rw1.stp sh).stp sp.toStp) rs hpp (npm sp) ra rv o fun μ3 H3 S3 acc' us' s3 rs3 hp3 ra3 o3=>⟨μ3,S3,acc',us',sp.trans s3,rs3,hp3,ra3,o3⟩
   ·exact o.elim
 | liveE l=>
  obtain ⟨a,ha,rfl⟩:=rd
  refine ⟨fun i n H=>∃μ S acc us,StP p (μ1.hide p) (upd H1 p (.lst [])) μ H∧RelS X.K X.mg μ H S∧H p=some (.lst us)∧RepAll X.K X.mg μ H acc us∧Out X.K X.mg W σ μ1 H1 (RL X.K X.mg) Q (kU g tc m w l n i acc S),
   ⟨_,_,S1,[],[],st0,rs.hide hp,upd_same,.nil,o1⟩,?_⟩
  rintro i n H ⟨μ,S,acc,us,sp,rs,hpp,ra,o⟩
  have sb:Stp μ1 H1 μ H:=sh.trans sp.toStp
  cases n with
  | zero=>exact o.elim
  | succ n=>
   unfold kU at o
   split at o
   ·rename_i xs es
    obtain ⟨a',h1,vs',h2,h3⟩:=rs.at_ _ _ es
    rw[sb.get ha] at h1; cases h1
    split at o
    ·rename_i hx
     refine .inl ⟨⟨vs',.of h2,?_⟩,fin μ H S acc us sp rs hpp ra o⟩
     rw[←h3.length]
     exact List.getElem?_eq_none_iff.mp hx
    ·rename_i d hx
     obtain ⟨v,hv,rv⟩:=h3.get hx
     refine .inr ⟨⟨vs',v,.of h2,hv⟩,fun H=>∃μ S acc us,StP p (μ1.hide p) (upd H1 p (.lst [])) μ H∧RelS X.K X.mg μ H S∧H p=some (.lst us)∧RepAll X.K X.mg μ H acc us∧Out X.K X.mg W σ μ1 H1 (RL X.K X.mg) Q (kU g tc m w l n (i+1) acc S),fun H' w=>⟨n,Nat.lt_succ_self n,w⟩,fun x H' y=>?_⟩
     obtain ⟨T,z,rfl,hT,rfl,y⟩:=y
     have q:=y vs' (.of h2)
     rw[hv] at q; cases q
     have sm:Sm H (upd H T (.tup [.int (i:Int),v])):=.upd hT
     have sx:Step μ H μ (upd H T (.tup [.int (i:Int),v])):=.of_sm sm
     have rx:Rep X.K X.mg μ (upd H T (.tup [.int (i:Int),v])) (.tup [.int (i:Nat),d]) (.ref T):=bh rs hT (.cons (bK _) (.cons rv .nil))
     have spx:=sp.trans (StP.of sx)
     exact mW ((rw1.stp sh).stp spx.toStp) (rs.sm sm) (sm _ _ hpp) (npm spx) (RepAll.step sx _ _ ra) rx o fun μ3 H3 S3 acc' us' s3 rs3 hp3 ra3 o3=>⟨μ3,S3,acc',us',spx.trans s3,rs3,hp3,ra3,o3⟩
   ·exact o.elim
theorem rl_lst {K:PySem.W.Frag} {mg:Str→Option Value} {μ:Mu} {H:Hp} {ds:List D} {v:V} (r:RL K mg μ H ds v):Rep K mg μ H (.lst ds) v:=by
 obtain ⟨p,us,e,h1,n,h2⟩:=r
 unfold Rep
 exact ⟨p,us,e,h1,n,h2⟩
/-- frozen -/
theorem jM {σ:L2.St} {H:Hp} {Q:VK} {W:WX} (h:tE X W (cE mi g tc m vs) σ H Q):tM X (RL X.K X.mg) W (gY mi g tc m vs) σ H Q:=by
 obtain ⟨env,S,μ,rl,o⟩:=h
 refine ⟨env,S,μ,rl,(Out.bind (R:=RL X.K X.mg) o).mono fun v H1 ⟨μ1,S1,ds,st,rs,r,o1⟩=>o1 μ1 H1 v .refl rs (rl_lst r)⟩
section
variable {scope:Scope} {own:List (Str × Nat)} {W:WX} {ifs:List Expr}
theorem cH (hc:X.calm=true) (hN:X.N.Nodup) (hi:PI X tg iter (tI X W mi)) (ok:BlkOk X.N X.env.scope scope own)
  (hg:∀(s:Shared) (H:Hp) (C:Addr) (cl:List (Str × Addr)) (fp:List Addr),PG (X.blk s H scope (compEnvC scope cl C X.env) fp) tg (tGc (X.blk s H scope (compEnvC scope cl C X.env) fp) (own.map (·.2)) g))
  (ht:∀(s:Shared) (H:Hp) (C:Addr) (cl:List (Str × Addr)) (fp:List Addr),PTs' (X.blk s H scope (compEnvC scope cl C X.env) fp) ifs tc)
  (he:∀(s:Shared) (H:Hp) (C:Addr) (cl:List (Str × Addr)) (fp:List Addr),PE (X.blk s H scope (compEnvC scope cl C X.env) fp) elt (tE (X.blk s H scope (compEnvC scope cl C X.env) fp) W0 m)) (hs:∀x,foldedSetIterable iter X.env x=pure x:=by intro _; rfl) :
  PE X (.ListComp elt [⟨tg,iter,ifs,0⟩] scope pos) (tE X W (cE mi g tc m (own.map (·.2)))):=
 b4 (pe_lc (g:=tGc X (own.map Prod.snd) g) (tt:=tT X W0 tc) (te:=tE X W0 m) hc hN hi ok hg ht he hs) fun σ H Q h=>pU (jM h)
theorem kW {i:Nat} {y:Str} {py spos:Pos} (hc:X.calm=true) (hN:X.N.Nodup) (hy:X.N[i]?=some y) (hyl:X.env.scope.names.lookup y=some .local)
  (hsw:swapsWith (.ListComp elt [⟨tg,iter,ifs,0⟩] scope pos) (some (.Name y py)) spos.line X.env=pure true) (hi:PI X tg iter (tI X W mi)) (ok:BlkOk X.N X.env.scope scope own)
  (hg:∀(s:Shared) (H:Hp) (C:Addr) (cl:List (Str × Addr)) (fp:List Addr),PG (X.blk s H scope (compEnvC scope cl C X.env) fp) tg (tGc (X.blk s H scope (compEnvC scope cl C X.env) fp) (own.map (·.2)) g))
  (ht:∀(s:Shared) (H:Hp) (C:Addr) (cl:List (Str × Addr)) (fp:List Addr),PTs' (X.blk s H scope (compEnvC scope cl C X.env) fp) ifs tc)
  (he:∀(s:Shared) (H:Hp) (C:Addr) (cl:List (Str × Addr)) (fp:List Addr),PE (X.blk s H scope (compEnvC scope cl C X.env) fp) elt (tE (X.blk s H scope (compEnvC scope cl C X.env) fp) W0 m)) (hs:∀x,foldedSetIterable iter X.env x=pure x:=by intro _; rfl) :
  PS X (.Assign [.Name y py] (.ListComp elt [⟨tg,iter,ifs,0⟩] scope pos) spos) (tS X W (ap i (cE mi g tc m (own.map (·.2))))):=
 gU (ps_setLc (g:=tGc X (own.map Prod.snd) g) (tt:=tT X W0 tc) (te:=tE X W0 m) hc hN hy hyl hsw hi ok hg ht he hs) fun D σ H ⟨env,S,μ,rl,o⟩=>pU (jM ⟨env,S,μ,rl,(OutS.rs rl.env o).mono fun x H1 ⟨μ1,S1,d,st,rs,r,o1⟩=>o1 μ1 H1 _ .refl ((rl.env.step st).set r) rs⟩)
end
end
end DL
set_option maxHeartbeats 4000000
namespace DL
open PySem PySem.Spec PyProof.Rows L2
abbrev Takes (X:Cx) (W:WX):Prop:=L2N.Takes X W
theorem passAt {X:Cx} {W:WX} (tk:Takes X W) (σ:L2.St):PassesAt (L2N.CX X.prog X.w) X σ (WE W σ):=L2N.passAt tk σ
theorem takes_of {X:Cx} {E:XK} (hs:X.stack=X.env::X.outer) (hf:X.env.frame=some X.env.locals) (hex:X.ex=[]) {E₁:Value→Shared→Prop}
  (hx:X.xe=fun e s'=>wpAny (model X.prog X.w) X.A (leaving X.env e) (fun _ s''=>L2N.CX X.prog X.w X.outer X.H_0 X.s_0 E e s'') E₁ s'):Takes X fun cls d _ H=>E cls d H:=L2N.takes_of hs hf hex hx
/-- what is a wish of L2's is one of these -/
theorem kY {X:Cx} {W:WX} (tk:L2.Takes X W):Takes X W:=fun u s' ⟨a,B,sI,pins,σ,H,cls,d,e,I,nb,up,sky,na,os,ag,w⟩=>
 tk u s' ⟨a,B,sI,pins,σ,H,cls,d,e,I,nb,up,(by
  rcases sky with ⟨h1,h2,h3,oe,vs,h4,z,h5⟩|⟨h1,h2,h3,oe,vs,T,oT,ts,h4,z,h5⟩|⟨h1,h2,h3,oe,vs,T,oT,ts,h4,z,h5⟩
  ·exact .inl ⟨h1,h2,h3,oe,vs,h4,⟨z.1,z.2.1⟩,h5⟩
  ·exact .inr (.inl ⟨h1,h2,h3,oe,vs,T,oT,ts,h4,⟨z.1,z.2.1⟩,h5⟩)
  ·exact .inr (.inr ⟨h1,h2,h3,oe,vs,T,oT,ts,h4,⟨z.1,z.2.1⟩,h5⟩)),na,os,ag,w⟩
theorem takes0 {X:Cx}:Takes X (fun _ _ _ _=>False):=kY LamX.takes0
section
variable {X:Cx} {CX:CXT} {x:Str} {e:Expr} {es:List Expr} {ta:TA} {p pos:Pos} {C fI:Addr} {k:Nat} {fd:FuncData} {ps:List Str} {sp:Sp}
/-- an error whose class has an own __init__,its context None -/
theorem tK (T:OexC X.K C) (iC:PySem.W.findIn X.K (.ref C) "__init__"=some (some (.ref fI))) (tI:PySem.W.typeIn X.K (.ref fI)=some (.type "function")) (F1:FnOk X.prog X.w X.K X.mg X.base CX k fI fd ps sp) (hr:Room (k+1) X.A) (hb:L2.Binds X.K fd ps [])
  (hx:Passes CX X fun _ _ _=>False) (hg:Gl X x) (hm:X.mg x=some (.ref C)) (ha:PA X (e::es) ta) (hdb:(x == ("__debug__":Str))=false) (he:starEach (e::es) X.env=(false,eval e X.env)::starEach es X.env) (hpl:(backTo pos (starEach es X.env)).any (·.1)=false) :
  L2N.PMk X (.Call (.Name x p) (e::es) [] pos) (tMkO C sp [] ta):=by
 intro pins s σ H Q I h
 obtain ⟨nm,q,N,bs,bm,sn,sub,ab,col,dd,k0,k1,k2,k3,k5,hC,hbm⟩:=T.cls
 refine wpAny_Call_Name_kw (ld_glob I hg hm (PySem.W.callWith_K I.ok.mod.kin T.kC (thn (ha.run pos pins s σ H _ I h) fun us s1 ⟨vs,H1,I1,r1,hz,q1⟩=>⟨I1.kIn,?_⟩) he hpl) hdb)
 obtain ⟨hp,g,dr,tk,os⟩:=s1
 have hsz:=Nat.le_succ hp.objs.size
 have hn:=I1.hok.fresh hsz
 have hq:=q1 (hp.objs.size+1) hn
 rw[List.append_nil] at hq
 have kk:∀b o,hp.get? b=some o→((hp.push (PySem.W.kdv_tup us)).push (HandSPX.excO C hp.objs.size)).get? b=some o:=fun b o e=>Heap.get?_push_of_some (HandSPX.excO C hp.objs.size) (Heap.get?_push_of_some (PySem.W.kdv_tup us) e)
 have hget:((hp.push (PySem.W.kdv_tup us)).push (HandSPX.excO C hp.objs.size)).get? (hp.objs.size+1)=some (HandSPX.excO C hp.objs.size):=Heap.get?_push_at (by rw[Heap.size_push]) rfl
 have I2:=I1.laid (t':=tk) kk hsz (exo_ok hget)
 have r2:Vals (.ref (hp.objs.size+1)::vs) (.ref (hp.objs.size+1)::us):=.cons rfl r1
 have hl:(Value.ref (hp.objs.size+1)::us).length=ps.length:=by
  have:=F1.len _ _ _ _ hq
  rw[←this]
  exact (Vals.length r2).symm
 have hbt:BindsTo ({ heap:=(hp.push (PySem.W.kdv_tup us)).push (HandSPX.excO C hp.objs.size),gens:=g,drawn:=dr,toks:=tk,os:=os }:Shared) fd { pos:=.ref (hp.objs.size+1)::us } (ps.zip (.ref (hp.objs.size+1)::us)):=by
  have:=hb { heap:=(hp.push (PySem.W.kdv_tup us)).push (HandSPX.excO C hp.objs.size),gens:=g,drawn:=dr,toks:=tk,os:=os } (.ref (hp.objs.size+1)::us) I2.kIn (by rw[List.append_nil]; exact hl)
  rw[List.append_nil] at this
  exact this
 have hus:us.length≤sizeLine:=by
  rw[←Paired.length r1,sizeLine_eq]
  omega
 refine wpAny_call (HandSPX.call_own PySem.F.excBase_ValueError (fun Y=>HandSPX.refsVE_contains Y bm hbm) (I1.kIn C _ hC) (PySem.W.looks_findIn I1.kIn iC) (fun self=>PySem.W.bind_fn I1.kIn self tI) hus
  (codeAny_mono (F1.run _ X.stack _ _ { pos:=.ref (hp.objs.size+1)::us } (.ref (hp.objs.size+1)::us) (.ref (hp.objs.size+1)::vs) _ _ (hr.make C us []) (I2.env0.make C us []) hbt r2 hq) fun r s' hq'=>?_))
 cases r with
 | error er=>exact hx pins σ _ _ er s' I2 hq'
 | ok fl=>
  cases fl with
  | next=>exact False.elim hq'
  | brk=>exact False.elim hq'
  | cont=>exact False.elim hq'
  | ret v=>
   obtain ⟨v2,H2,os2,bare2,un2,hok2,rv,rfl,d,fs,ea,ed,hd1,q2⟩:=hq'
   obtain ⟨h2,g2,d2,t2,os'⟩:=s'
   refine ⟨rv,?_⟩
   obtain ⟨t0,G,IG,kG,nG,hG,na⟩:=mk_end0 (d1:=dr) (t1:=tk) (d2:=d2) (t2:=t2) I1 hsz kk un2 hok2 os2 bare2 ea ed hd1
   exact ⟨_,_,_,_,_,_,_,rfl,IG,kG,nG,hG,⟨rfl,rfl,fun vs e=>by cases e; rfl⟩,rfl,rfl,na,rfl,bare2,raises_own T.exC T.tyC,q2⟩
end
abbrev MF:=List D→Sto→Res D
def chk (n:Nat) (m:MF):MF:=fun ds S=>if ds.length=n then m ds S else .stuck
/-- what a def promises -/
def spD (K:PySem.W.Frag) (mg:Str→Option Value) (n:Nat) (m:MF):Sp:=fun vs H Q E=>∃ds S μ,RelS K mg μ H S∧RepAll K mg μ H ds vs∧Out K mg (fun c d _ H'=>E c d H') [] μ H (fun μ H a b=>Rep K mg μ H a b) Q (chk n m ds S)
theorem qm {K:PySem.W.Frag} {mg:Str→Option Value} {n:Nat} {m:MF} {vs:List V} {H:Hp} {Q:VK} {E:XK} (h:spD K mg n m vs H Q E):vs.length=n:=by
 obtain ⟨ds,S,μ,rs,ra,o⟩:=h
 unfold chk at o
 split at o
 ·rename_i e; rw[←ra.length]; exact e
 ·exact o.elim
structure FnM (P:Program) (w:World) (K:PySem.W.Frag) (mg:Str→Option Value) (base:Heap) (k:Nat) (f:Addr) (fd:FuncData) (ps:List Str) (m:MF):Prop where
 ok:FnOk P w K mg base (L2N.CX P w) k f fd ps (spD K mg ps.length m)
 kp:PySem.W.keepIn K (.ref f)=true
 b:Binds K fd ps []
/-- a body,run -/
def bF (n:Nat) (m:MS):MF:=fun ds S=>match m (ds.map some++List.replicate n none) S with
 | .next _ S=>.ok .none S
 | .ret d S=>.ok d S
 | .exc e _ S=>.exc e S
 | _=>.stuck
theorem kZ {K:PySem.W.Frag} {mg:Str→Option Value} {μ:Mu} {H:Hp} {N:List Str}:∀ {ds:List D} {vs:List V},RepAll K mg μ H ds vs→RelE K mg μ H (ds.map some++List.replicate (N.length - ds.length) none) (L2.start N vs):=fun {ds vs} r=>by
 unfold L2.start
 have hl:=r.length
 refine ⟨by simp[hl],fun i d e=>?_⟩
 by_cases hi:i<ds.length
 ·rw[List.getElem?_append_left (by simpa using hi),List.getElem?_map] at e
  obtain ⟨d',h1,h2⟩:=Option.map_eq_some_iff.mp e
  cases h2
  obtain ⟨v,h3,h4⟩:=r.get h1
  exact ⟨v,by rw[List.getElem?_append_left (by rw[List.length_map,←hl]; exact hi),List.getElem?_map,h3]; rfl,h4⟩
 ·rw[List.getElem?_append_right (by simpa using Nat.le_of_not_lt hi)] at e
  have:=List.getElem?_replicate (a:=(none:Option D)) (n:=N.length - ds.length) (i:=i - (ds.map some).length)
  rw[this] at e
  split at e<;>cases e
def aR (n:Nat) (m:MF) (r:MA):ME:=fun env S=>(r env S).bind fun ds S=>chk n m ds S
theorem j7 {K:PySem.W.Frag} {mg:Str→Option Value} {μ:Mu} {H:Hp} {α β:Type} {W:WX} {R:Mu→Hp→α→β→Prop} {Q:β→Hp→Prop} {σ:L2.St} {r:Res α} (o:Out K mg W σ μ H R Q r):Out K mg (fun c d _ H'=>WE W σ c d H') [] μ H R Q r:=by
 cases r with
 | ok a S=>exact o
 | exc e S=>exact o
 | stuck=>exact o
section
variable {X:Cx} {W:WX} {k:Nat} {f C:Addr} {fd:FuncData} {ps:List Str} {m mi:MF} {x nm cn:Str} {p pos apos:Pos} {e o:Expr} {es:List Expr} {r:MA} {ma mv:ME}
theorem t_call {σ:L2.St} {H:Hp} {Q:VK} (h:tE X W (aR ps.length m r) σ H Q):tCallSD (spD X.K X.mg ps.length m) [] (WE W) (tAs X W r) σ H Q:=by
 obtain ⟨env,S,μ,rl,o⟩:=h
 exact ⟨env,S,μ,rl,(Out.bind o).mono fun vs H1 ⟨μ1,S1,ds,st,rs,rd,o1⟩=>⟨ds,S1,μ1,rs,by rw[List.append_nil]; exact rd,j7 o1⟩⟩
theorem vC (F:FnM X.prog X.w X.K X.mg X.base k f fd ps m) (hr:Room k X.A) (hg:Gl X x) (hm:X.mg x=some (.ref f)) (tk:Takes X W)
  (ha:PA X (e::es) (tAs X W r)) (hdb:(x == ("__debug__":Str))=false:=by decide) (he:starEach (e::es) X.env=(false,eval e X.env)::starEach es X.env:=by rfl) (hpl:(backTo pos (starEach es X.env)).any (·.1)=false:=by rfl) :
  PE X (.Call (.Name x p) (e::es) [] pos) (tE X W (aR ps.length m r)):=b4 (pe_callSD F.ok hr hg hm F.kp F.b .nil (passAt tk) ha hdb he hpl) fun _ _ _ h=>t_call h
def ka (cn nm:Str) (n:Nat) (m:MF) (ma:ME) (r:MA):ME:=fun env S=>(ma env S).bind fun d S=>match d with
 | .loc l=>match S[l]? with
  | some (.ins C fs)=>if C=cn∧(fs.map (·.1)).contains nm=false then (r env S).bind fun ds S=>chk n m (.loc l::ds) S else .stuck
  | _=>.stuck
 | _=>.stuck
theorem gB {nm:Str}:∀ {ns:List Str} {vs:List V},ns.contains nm=false→(ns.zip vs).lookup nm=none
 | [],vs,_=>by simp
 | n::ns,[],_=>by simp
 | n::ns,v::vs,h=>by
  rw[List.contains_cons,Bool.or_eq_false_iff] at h
  rw[List.zip_cons_cons,List.lookup_cons,h.1]
  exact gB h.2
theorem vD {pl:Sem Bool} (he:PE X o (tE X W ma)) (hC:X.mg cn=some (.ref C)) (c:Cls X.K C) (hm:Meth X.K C nm f) (F:FnM X.prog X.w X.K X.mg X.base k f fd ps m) (hr:Room k X.A) (tk:Takes X W) (ha:PA X (e::es) (tAs X W r))
  (hst:starEach (e::es) X.env=(false,eval e X.env)::starEach es X.env:=by rfl) (hpl:(backTo pos (starEach es X.env)).any (·.1)=false:=by rfl)
  (ht:eval (.Call (.Attribute o nm apos) (e::es) [] pos) X.env=(do
   let ov ←eval o X.env
   standAt apos.atName
   let (f,first) ←holding [ov] (getMethod ov nm pl)
   callWith pos f first (backTo pos (starEach (e::es) X.env)) (backToKw pos (keywordEach [] X.env))):=by rfl) :
  PE X (.Call (.Attribute o nm apos) (e::es) [] pos) (tE X W (ka cn nm ps.length m ma r)):=by
 refine ⟨fun pins s σ H Q I ⟨env,S,μ,rl,o⟩=>?_⟩
 refine PySem.W.methodCall_KW (pl:=pl) (thn (he.run pins s σ H _ I ⟨env,S,μ,rl,Out.bind o⟩) fun u s1 ⟨x,H1,I1,rx,μ1,S1,d,st,rs,rd,o1⟩=>?_) ht
 cases d with
 | loc l=>
  unfold Rep at rd
  obtain ⟨a,rfl,hμ⟩:=rd
  dsimp only at o1
  split at o1
  ·rename_i C' fs es'
   split at o1
   ·rename_i hcn
    obtain ⟨rfl,hnm⟩:=hcn
    obtain ⟨a',h1,Ca,dx,vs,hC',ha',hfs⟩:=rs.at_ _ _ es'
    rw[hμ] at h1; cases h1
    rw[hC] at hC'; cases hC'
    obtain rfl:u=Value.ref a:=rx
    refine getmeth_ok I1 ha' c hm (gB hnm) ?_
    refine PySem.W.callWith_K (first:=[.ref a]) (h₀:=X.base) I.ok.mod.kin hm.kp (thn (ha.run pos pins s1 σ H1 _ I1 ⟨env,S1,μ1,⟨rl.env.step st,rs⟩,Out.bind o1⟩) fun us s2 ⟨ws,H2,I2,rw2,μ2,S2,ds,st2,rs2,rds,o2⟩=>⟨I2.kIn,?_⟩) hst hpl
    refine run_fnSD (us:=.ref a::us) (vs:=.ref a::ws) (E:=WE W) F.ok hr F.b .nil (passAt tk σ) I2 (.cons rfl rw2) ⟨_,S2,μ2,rs2,?_,j7 o2⟩
    rw[List.append_nil]
    exact .cons (by unfold Rep; exact ⟨a,rfl,st2.get hμ⟩) rds
   ·exact o1.elim
  ·exact o1.elim
 | _=>exact o1.elim
def iH (cn:Str) (n:Nat) (mi:MF) (r:MA):ME:=fun env S=>(r env S).bind fun ds S=>(chk n mi (.loc S.length::ds) (S++[.ins cn []])).bind fun d S'=>match d with
 | .none=>.ok (.loc S.length) S'
 | _=>.stuck
theorem rZ {pins:List (Addr × Obj)} {σ:L2.St} {H:Hp} {s:Shared} {Q:VK} {us:List Value} {vs:List V} {CX:CXT} {sp:Sp} {dvs:List V} {ds:List Value} {E:XK} (M:Mk X.K C f) (F:FnOk X.prog X.w X.K X.mg X.base CX k f fd ps sp) (hr:Room (k+1) X.A) (hb:Binds X.K fd ps ds) (hd:Vals dvs ds)
  (hx:PassesAt CX X σ E) (I:L2.Inv X pins σ H s) (r:Vals vs us)
  (h:∀x dx,H x=none→H dx=none→dx≠x→sp (.ref x::(vs++dvs)) (upd (upd H dx (.own x)) x (.ins C dx [])) (fun v H2=>v=.non∧Q (.ref x) H2) E) :
  wpAny (model X.prog X.w) X.A (call (.ref C) us) (EP X pins σ Q) X.xe s:=by
 have hq:=h (s.heap.objs.size+1) s.heap.objs.size (I.hok.fresh (Nat.le_succ _)) (I.hok.fresh (Nat.le_refl _)) (Nat.ne_of_lt (Nat.lt_succ_self _))
 have I2:=Inv.made (C:=C) I
 have r2:Vals (V.ref (s.heap.objs.size+1)::(vs++dvs)) (Value.ref (s.heap.objs.size+1)::(us++ds)):=.cons rfl (r.append hd)
 have hl:(Value.ref (s.heap.objs.size+1)::us++ds).length=ps.length:=by
  have e:=r2.length
  rw[F.len _ _ _ _ hq] at e
  exact e.symm
 refine wpAny_call (make_map (f:=f) I.kIn M.makes M.init (beq_iff_eq.mp M.fn) (codeAny_mono (F.run _ X.stack _ _ ⟨Value.ref (s.heap.objs.size+1)::us,[]⟩ (Value.ref (s.heap.objs.size+1)::(us++ds)) _ _ E (hr.make C us [])
  (I2.env0.make C us []) (hb _ (Value.ref (s.heap.objs.size+1)::us) I2.kIn hl) r2 hq) fun r s' hq'=>?_))
 cases r with
 | error e=>exact hx pins _ _ e s' I2 hq'
 | ok fl=>
  cases fl with
  | ret u=>
   obtain ⟨v,H',I3,rv,ev,q3⟩:=I2.after hq'
   subst ev
   exact ⟨rv,⟨V.ref (s.heap.objs.size+1),H',I3,rfl,q3⟩⟩
  | next=>exact False.elim hq'
  | brk=>exact False.elim hq'
  | cont=>exact False.elim hq'
/-- a new instance in the store -/
theorem vE {K:PySem.W.Frag} {mg:Str→Option Value} {μ:Mu} {H:Hp} {S:Sto} {x dx:Addr} (rs:RelS K mg μ H S) (hC:mg cn=some (.ref C)) (hx:H x=none) (hd:H dx=none) (hne:dx≠x) :
  Step μ H (μ.push x) (upd (upd H dx (.own x)) x (.ins C dx []))∧RelS K mg (μ.push x) (upd (upd H dx (.own x)) x (.ins C dx [])) (S++[.ins cn []])∧Rep K mg (μ.push x) (upd (upd H dx (.own x)) x (.ins C dx [])) (.loc S.length) (.ref x):=by
 have s1:Step μ H μ (upd H dx (.own x)):=.of_sm (.upd hd)
 have r1:=rs.sm (Sm.upd (o:=.own x) hd)
 have hx':upd H dx (.own x) x=none:=by rw[upd_ne hne.symm]; exact hx
 obtain ⟨a,b,c⟩:=mQ (ho:=.ins C dx []) (o:=.ins cn []) r1 hx' ⟨C,dx,[],hC,upd_same,.nil⟩
 exact ⟨s1.trans a,b,c⟩
theorem tL {K:PySem.W.Frag} {mg:Str→Option Value} {μ:Mu} {H:Hp} {W:WX} {σ:L2.St} {Q:VK} {r:Res D} {l:Nat} {x:Addr} (hl:μ.l[l]?=some x)
  (o:Out K mg W σ μ H (fun μ H a b=>Rep K mg μ H a b) Q (r.bind fun d S'=>match d with|.none=>.ok (.loc l) S'|_=>.stuck)):Out K mg W σ μ H (fun μ H a b=>Rep K mg μ H a b) (fun v H2=>v=.non∧Q (.ref x) H2) r:=by
 cases r with
 | ok d S=>
  cases d with
  | none=>
   intro μ' H' v st rs r
   have r:Rep K mg μ' H' .none v:=r
   unfold Rep at r
   exact ⟨r,o μ' H' (.ref x) st rs (by unfold Rep; exact ⟨x,rfl,st.get hl⟩)⟩
  | _=>exact o.elim
 | exc e S=>exact o
 | stuck=>exact o
theorem vF (hC:X.mg cn=some (.ref C)) (M:Mk X.K C f) (F:FnM X.prog X.w X.K X.mg X.base k f fd ps mi) (hr:Room (k+1) X.A) (hg:Gl X cn) (tk:Takes X W) (ha:PA X (e::es) (tAs X W r)) (hdb:(cn == ("__debug__":Str))=false:=by decide)
  (he:starEach (e::es) X.env=(false,eval e X.env)::starEach es X.env:=by rfl) (hpl:(backTo pos (starEach es X.env)).any (·.1)=false:=by rfl) :
  PE X (.Call (.Name cn p) (e::es) [] pos) (tE X W (iH cn ps.length mi r)):=by
 refine ⟨fun pins s σ H Q I ⟨env,S,μ,rl,o⟩=>?_⟩
 refine wpAny_Call_Name_kw (ld_glob I hg hC ?_ hdb)
 refine PySem.W.callWith_K (h₀:=X.base) I.ok.mod.kin M.kp (thn (ha.run pos pins s σ H _ I ⟨env,S,μ,rl,Out.bind o⟩) fun us s1 ⟨vs,H1,I1,r,μ1,S1,ds,st,rs,rd,o1⟩=>⟨I1.kIn,?_⟩) he hpl
 refine rZ (E:=WE W σ) M F.ok hr F.b .nil (passAt tk σ) I1 r fun x dx hx hd hne=>?_
 obtain ⟨a,b,c⟩:=vE rs hC hx hd hne
 refine ⟨.loc S1.length::ds,_,_,b,?_,j7 (tL ?_ (Out.of_step a o1))⟩
 ·rw[List.append_nil]
  exact .cons c (RepAll.step a _ _ rd)
 ·unfold Rep at c
  obtain ⟨x',e1,e2⟩:=c
  cases e1
  exact e2
def eFld (cn f:Str) (ma:ME):ME:=fun env S=>(ma env S).bind fun d S=>match d with
 | .loc l=>match S[l]? with
  | some (.ins C fs)=>if C=cn then ofO S (fs.lookup f) else .stuck
  | _=>.stuck
 | _=>.stuck
theorem kc {K:PySem.W.Frag} {mg:Str→Option Value} {μ:Mu} {H:Hp} {g:Str}:∀ {fs:List (Str × D)} {vs:List V} {d:D},RepAll K mg μ H (fs.map (·.2)) vs→fs.lookup g=some d→∃v,((fs.map (·.1)).zip vs).lookup g=some v∧Rep K mg μ H d v
 | [],vs,d,_,e=>by simp at e
 | (n,a)::fs,vs,d,r,e=>by
  have r:RepAll K mg μ H (a::fs.map (·.2)) vs:=r
  unfold RepAll at r
  obtain ⟨v,q,rfl,r1,r2⟩:=r
  rw[List.lookup_cons] at e
  rw[List.map_cons,List.zip_cons_cons,List.lookup_cons]
  cases h:g == n with
  | true=>rw[h] at e; cases e; exact ⟨v,by simp[h],r1⟩
  | false=>
   rw[h] at e
   obtain ⟨v,h1,h2⟩:=kc r2 e
   exact ⟨v,by simpa [h] using h1,h2⟩
theorem pV {g:Str} (he:PE X e (tE X W ma)) (hC:X.mg cn=some (.ref C)) (c:Cls X.K C) (n:NoAttr X.K C g) (hb:attributeBase e g X.env (eval e X.env)=eval e X.env:=by rfl):PE X (.Attribute e g pos) (tE X W (eFld cn g ma)):=
 b4 (pe_fld he hb) fun σ H Q ⟨env,S,μ,rl,o⟩=>⟨env,S,μ,rl,(Out.bind o).mono fun x H1 ⟨μ1,S1,d,st,rs,rd,o1⟩=>by
  cases d with
  | loc l=>
   unfold Rep at rd
   obtain ⟨a,rfl,hμ⟩:=rd
   dsimp only at o1
   split at o1
   ·rename_i C' fs es'
    split at o1
    ·rename_i hcn
     subst hcn
     obtain ⟨a',h1,Ca,dx,vs,hC',ha',hfs⟩:=rs.at_ _ _ es'
     rw[hμ] at h1; cases h1
     rw[hC] at hC'; cases hC'
     cases el:fs.lookup g with
     | none=>rw[el] at o1; exact o1.elim
     | some d'=>
      rw[el] at o1
      obtain ⟨v,h3,h4⟩:=kc hfs el
      exact ⟨a,C,dx,_,v,rfl,ha',c,n,h3,o1 μ1 H1 v .refl rs h4⟩
    ·exact o1.elim
   ·exact o1.elim
  | _=>exact o1.elim⟩
def iD (f:Str) (v:D):List (Str × D)→List (Str × D)
 | []=>[(f,v)]
 | (g,x)::r=>if g=f then (g,v)::r else (g,x)::iD f v r
theorem nz {K:PySem.W.Frag} {mg:Str→Option Value} {μ:Mu} {H:Hp} {g:Str} {d:D} {v:V} (rd:Rep K mg μ H d v):∀ {fs:List (Str × D)} {vs:List V},RepAll K mg μ H (fs.map (·.2)) vs→
  ∃ws,putF g v ((fs.map (·.1)).zip vs)=((iD g d fs).map (·.1)).zip ws∧RepAll K mg μ H ((iD g d fs).map (·.2)) ws
 | [],vs,r=>⟨[v],by simp[putF,iD],.cons rd .nil⟩
 | (n,a)::fs,vs,r=>by
  have r:RepAll K mg μ H (a::fs.map (·.2)) vs:=r
  unfold RepAll at r
  obtain ⟨u,q,rfl,r1,r2⟩:=r
  rw[List.map_cons,List.zip_cons_cons]
  unfold putF iD
  by_cases h:n=g
  ·rw[if_pos h,if_pos h]
   exact ⟨v::q,rfl,.cons rd r2⟩
  ·rw[if_neg h,if_neg h]
   obtain ⟨ws,h1,h2⟩:=nz rd r2
   exact ⟨u::ws,by rw[h1]; rfl,.cons r1 h2⟩
def n0 (cn f:Str) (ma mv:ME):MS:=fun env S=>(mv env S).rs env fun d S=>(ma env S).rs env fun o S=>match o with
 | .loc l=>match S[l]? with
  | some (.ins C fs)=>if C=cn∧fs.length<1000 then .next env (S.set l (.ins C (iD f d fs))) else .stuck
  | _=>.stuck
 | _=>.stuck
theorem vG {K:PySem.W.Frag} {mg:Str→Option Value} {μ:Mu} {H:Hp} {S:Sto} {l:Nat} {a C dx:Addr} {g:Str} {d:D} {v:V} {fs:List (Str × D)} {vs:List V} (rs:RelS K mg μ H S) (hC:mg cn=some (.ref C)) (hμ:μ.l[l]?=some a) (ha:H a=some (.ins C dx ((fs.map (·.1)).zip vs)))
  (r:RepAll K mg μ H (fs.map (·.2)) vs) (rd:Rep K mg μ H d v):Step μ H μ (upd H a (.ins C dx (putF g v ((fs.map (·.1)).zip vs))))∧RelS K mg μ (upd H a (.ins C dx (putF g v ((fs.map (·.1)).zip vs)))) (S.set l (.ins cn (iD g d fs))):=by
 have st:Step μ H μ (upd H a (.ins C dx (putF g v ((fs.map (·.1)).zip vs)))):=Step.write rs hμ (.of ha)
 refine ⟨st,rs.write hμ (.of ha) ?_⟩
 obtain ⟨ws,h1,h2⟩:=nz (g:=g) (Rep.step st _ _ rd) (RepAll.step st _ _ r)
 exact ⟨C,dx,ws,hC,by rw[upd_same,h1],h2⟩
theorem tN {g:Str} {value:Expr} {pos':Pos} (hv:PE X value (tE X W mv)) (ha:PE X o (tE X W ma)) (hC:X.mg cn=some (.ref C)) (c:Cls X.K C) (n:NoAttr X.K C g) (hs:swapsWith value (some (.Attribute o g pos')) pos.line X.env=pure false:=by rfl) :
  PS X (.Assign [.Attribute o g pos'] value pos) (tS X W (n0 cn g ma mv)):=
 gU (ps_fld ha hv hs) fun D' σ H ⟨env,S,μ,rl,o⟩=>⟨env,S,μ,rl,(OutS.rs rl.env o).mono fun y H1 ⟨μ1,S1,d,st,rs,rd,o1⟩=>⟨env,S1,μ1,⟨rl.env.step st,rs⟩,(OutS.rs (rl.env.step st) o1).mono fun x H2 ⟨μ2,S2,od,st2,rs2,ro,o2⟩=>by
  cases od with
  | loc l=>
   unfold Rep at ro
   obtain ⟨a,rfl,hμ⟩:=ro
   dsimp only at o2
   split at o2
   ·rename_i C' fs es'
    split at o2
    ·rename_i hcn
     obtain ⟨hcn,hlen⟩:=hcn
     subst hcn
     obtain ⟨a',h1,Ca,dx,vs,hC',ha',hfs⟩:=rs2.at_ _ _ es'
     rw[hμ] at h1; cases h1
     rw[hC] at hC'; cases hC'
     obtain ⟨sw,rw'⟩:=vG (g:=g) rs2 hC hμ ha' hfs (Rep.step st2 _ _ rd)
     refine ⟨a,C,dx,_,rfl,ha',c,n,?_,o2 μ2 _ σ sw (((rl.env.step st).step st2).step sw) rw'⟩
     have:=hfs.length
     simp only[List.length_map] at this
     simp[←this,hlen]
    ·exact o2.elim
   ·exact o2.elim
  | _=>exact o2.elim⟩⟩
end
abbrev BF:=Sto→List D→Option D
def rB (K:PySem.W.Frag) (mg:Str→Option Value) (f:BF):List V→Hp→VK→Prop:=fun xs H Q=>
 ∃μ S ds d,RelS K mg μ H S∧RepAll K mg μ H ds xs∧f S ds=some d∧∀H' v,Sm H H'→Rep K mg μ H' d v→Q v H'
def eB (f:BF) (r:MA):ME:=fun env S=>(r env S).bind fun ds S=>ofO S (f S ds)
section
variable {X:Cx} {W:WX} {e:Expr} {es:List Expr} {p pos:Pos} {r:MA} {f:BF} {x:Str} {id T:String}
theorem t_b {σ:L2.St} {H:Hp} {Q:VK} (h:tE X W (eB f r) σ H Q):tCB (rB X.K X.mg f) (tAs X W r) σ H Q:=by
 obtain ⟨env,S,μ,rl,o⟩:=h
 refine ⟨env,S,μ,rl,(Out.bind o).mono fun vs H1 ⟨μ1,S1,ds,st,rs,rd,o1⟩=>?_⟩
 cases e:f S1 ds with
 | none=>rw[e] at o1; exact o1.elim
 | some d=>rw[e] at o1; exact ⟨μ1,S1,ds,d,rs,rd,e,fun H' v sm r=>o1 μ1 H' v (.of_sm sm) (rs.sm sm) r⟩
theorem al (hc:CallR X (.builtin id) (rB X.K X.mg f)) (hg:Gl X x) (hm:X.mg x=none) (hv:bootBuiltins x=some (.builtin id)) (ha:PA X (e::es) (tAs X W r)) (hn:x≠"__name__":=by decide) (hdb:(x == ("__debug__":Str))=false:=by decide)
  (he:starEach (e::es) X.env=(false,eval e X.env)::starEach es X.env:=by rfl) (hpl:(backTo pos (starEach es X.env)).any (·.1)=false:=by rfl):PE X (.Call (.Name x p) (e::es) [] pos) (tE X W (eB f r)):=
 b4 (pe_callB hc hg hm hv ha hn hdb he hpl) fun _ _ _ h=>t_b h
theorem jl (hc:CallR X (.type T) (rB X.K X.mg f)) (hg:Gl X x) (hm:X.mg x=none) (hv:bootBuiltins x=some (.type T)) (ha:PA X (e::es) (tAs X W r)) (hn:x≠"__name__":=by decide) (hdb:(x == ("__debug__":Str))=false:=by decide)
  (he:starEach (e::es) X.env=(false,eval e X.env)::starEach es X.env:=by rfl) (hpl:(backTo pos (starEach es X.env)).any (·.1)=false:=by rfl):PE X (.Call (.Name x p) (e::es) [] pos) (tE X W (eB f r)):=
 b4 (pe_callTy hc hg hm hv ha hn hdb he hpl) fun _ _ _ h=>t_b h
end
theorem ij {X:Cx} {f:Value} {r r':List V→Hp→VK→Prop} (h:CallR X f r) (i:∀xs H Q,r' xs H Q→r xs H Q):CallR X f r':=fun pins s σ H xs us Q I rx w=>h pins s σ H xs us Q I rx (i _ _ _ w)
def b3 (S:Sto) (ds:List D):Option D:=match ds with
 | [d]=>match view S d with
  | .tup xs=>some (.int xs.length)
  | .lst xs=>some (.int xs.length)
  | .ro xs=>some (.int xs.length)
  | .str z=>if z.length≤1000000 then some (.int z.length) else none
  | .loc l=>match S[l]? with
   | some (.dct false kvs)=>some (.int kvs.length)
   | _=>none
  | _=>none
 | _=>none
theorem j8 {κ:Type} {K:PySem.W.Frag} {mg:Str→Option Value} {μ:Mu} {H:Hp} {kvs:List (D × D)} {ks:List κ} {g:κ→D} {vs:List V} (e:kvs.map (·.1)=ks.map g) (r:RepAll K mg μ H (kvs.map (·.2)) vs):(ks.zip vs).length=kvs.length:=by
 have h1:=congrArg List.length e
 have h2:=r.length
 simp only[List.length_map] at h1 h2
 rw[List.length_zip,←h1,←h2,Nat.min_self]
section
variable {X:Cx}
theorem cU:CallR X (.builtin "len") (rB X.K X.mg b3):=by
 intro pins s σ H xs us Q I rx ⟨μ,S,ds,d,rs,ra,e,q⟩
 unfold b3 at e
 split at e
 ·rename_i d0
  obtain ⟨v,rfl,r1⟩:=cP ra
  have rw0:=rs.view r1
  split at e
  ·rename_i ys ev
   rw[ev] at rw0
   cases e
   obtain ⟨a,vs,rfl,h,l,_⟩:=rw0.tup
   exact call_len pins s σ H _ us Q I rx ⟨_,ys.length,rfl,.inr ⟨vs,.inl h,l.length⟩,q H _ .rfl (bK _)⟩
  ·rename_i ys ev
   rw[ev] at rw0
   cases e
   obtain ⟨a,vs,rfl,h,l⟩:=rw0
   exact call_len pins s σ H _ us Q I rx ⟨_,ys.length,rfl,.inl ⟨vs,.of h,l.length⟩,q H _ .rfl (bK _)⟩
  ·rename_i ys ev
   rw[ev] at rw0
   cases e
   have rw0:Rep X.K X.mg μ H (.ro ys) v:=rw0
   unfold Rep at rw0
   obtain ⟨a,vs,rfl,h,l⟩:=rw0
   exact call_len pins s σ H _ us Q I rx ⟨_,ys.length,rfl,.inl ⟨vs,h.sq,l.length⟩,q H _ .rfl (bK _)⟩
  ·rename_i z ev
   rw[ev] at rw0
   split at e
   ·rename_i hz
    cases e
    have:=rw0.str
    subst this
    exact call_len pins s σ H _ us Q I rx ⟨_,z.length,rfl,⟨b6 hz,rfl⟩,q H _ .rfl (bK _)⟩
   ·cases e
  ·rename_i l ev
   rw[ev] at rw0
   have rw0:Rep X.K X.mg μ H (.loc l) v:=rw0
   unfold Rep at rw0
   obtain ⟨a,rfl,hμ⟩:=rw0
   split at e
   ·rename_i kvs es
    cases e
    obtain ⟨a',h1,vs,ks,⟨h2,hk⟩,lr⟩:=rs.at_ _ _ es
    rw[hμ] at h1; cases h1
    exact call_lenD pins s σ H _ us Q I rx ⟨a,_,rfl,h2,by rw[j8 hk lr]; exact q H _ .rfl (bK _)⟩
   ·cases e
  ·cases e
 ·cases e
end
def gG (S:Sto):D→Option String
 | .none=>some "NoneType"
 | .bool _=>some "bool"
 | .int _=>some "int"
 | .str _=>some "str"
 | .tup _=>some "tuple"
 | .tpn _=>some "tuple"
 | .lst _=>some "list"
 | .loc l=>match S[l]? with
  | some (.lst _)=>some "list"
  | some (.dct _ _)=>some "dict"
  | _=>none
 | _=>none
def isTy (t n:String):Bool:=t == n||(t == "bool"&&n == "int")
def de (n:String):Bool:=n == "int"||n == "bool"||n == "str"||n == "tuple"||n == "list"||n == "dict"
def qo:List D→Option (List String)
 | []=>some []
 | .ty n::cs=>if de n then (qo cs).map (n::·) else none
 | _::_=>none
def bJ (S:Sto) (ds:List D):Option D:=match ds with
 | [x,.ty n]=>match gG S x with
  | some t=>if de n then some (.bool (isTy t n)) else none
  | none=>none
 | [x,.tup cs]=>match gG S x with
  | some t=>(qo cs).map fun ns=>.bool (ns.any (isTy t))
  | none=>none
 | _=>none
theorem qp:∀t∈["NoneType","bool","int","str","tuple","list","dict"],∀n∈["int","bool","str","tuple","list","dict"],kitB t n=some (isTy t n):=zqD
theorem lw {n:String} (h:de n=true):n∈["int","bool","str","tuple","list","dict"]:=by
 unfold de at h
 simp only[Bool.or_eq_true,beq_iff_eq] at h
 simp only[List.mem_cons,List.not_mem_nil,or_false]
 rcases h with ((((h|h)|h)|h)|h)|h<;>simp[h]
section
variable {K:PySem.W.Frag} {mg:Str→Option Value} {μ:Mu} {H:Hp} {S:Sto}
theorem qr (rs:RelS K mg μ H S) {x:D} {v:V} {t:String} (r:Rep K mg μ H x v) (e:gG S x=some t):TyX K H v (.type t)∧t∈["NoneType","bool","int","str","tuple","list","dict"]:=by
 cases x with
 | none=>cases e; unfold Rep at r; subst r; exact ⟨.base .non,by decide⟩
 | bool b=>cases e; unfold Rep at r; subst r; exact ⟨.base (.bl _),by decide⟩
 | int b=>cases e; unfold Rep at r; subst r; exact ⟨.base (.int _),by decide⟩
 | str b=>cases e; unfold Rep at r; subst r; exact ⟨.base (.str _),by decide⟩
 | tup b=>cases e; unfold Rep at r; obtain ⟨a,vs,rfl,h,_⟩:=r; exact ⟨.base (.tup h),by decide⟩
 | tpn b=>cases e; unfold Rep at r; obtain ⟨a,vs,o,rfl,⟨h,_⟩,_⟩:=r; exact ⟨.fTuple h,by decide⟩
 | lst b=>cases e; unfold Rep at r; obtain ⟨a,vs,rfl,h,_⟩:=r; exact ⟨.base (.lst h),by decide⟩
 | loc l=>
  unfold Rep at r
  obtain ⟨a,rfl,hμ⟩:=r
  have e:(match S[l]? with|some (.lst _)=>some "list"|some (.dct _ _)=>some "dict"|_=>none)=some t:=e
  split at e
  ·rename_i xs es
   cases e
   obtain ⟨a',h1,vs,h2,_⟩:=rs.at_ _ _ es
   rw[hμ] at h1; cases h1
   exact ⟨.base (.lst h2),by decide⟩
  ·rename_i t kvs es
   cases e
   obtain ⟨a',h1,ro⟩:=rs.at_ _ _ es
   rw[hμ] at h1; cases h1
   cases t with
   | false=>obtain ⟨vs,ks,⟨h2,_⟩,_⟩:=ro; exact ⟨.base (.dK h2),by decide⟩
   | true=>obtain ⟨vs,ks,⟨h2,_⟩,_⟩:=ro; exact ⟨.base (.dT h2),by decide⟩
  ·cases e
 | _=>cases e
theorem n4 {t:String} (ht:t∈["NoneType","bool","int","str","tuple","list","dict"]):∀ {cs:List D} {vs:List V} {ns:List String},RepAll K mg μ H cs vs→qo cs=some ns→∃us,Paired ClsV vs us∧PySem.W.kitAny K (.type t) us=some (ns.any (isTy t))
 | [],vs,ns,r,e=>by
  unfold RepAll at r; subst r
  cases e
  exact ⟨[],.nil,rfl⟩
 | c::cs,vs,ns,r,e=>by
  unfold RepAll at r
  obtain ⟨v,q,rfl,r1,r2⟩:=r
  cases c with
  | ty n=>
   unfold Rep at r1; subst r1
   unfold qo at e
   split at e
   ·rename_i hk
    obtain ⟨ns',h1,rfl⟩:=Option.map_eq_some_iff.mp e
    have hkit:=kit_ty (K:=K) (qp t ht n (lw hk))
    obtain ⟨us,h2,h3⟩:=n4 ht r2 h1
    refine ⟨.type n::us,.cons (.ty n) h2,kitAny_cons hkit (fun h=>?_) fun h=>?_⟩
    ·rw[List.any_cons,h,Bool.false_or]; exact h3
    ·rw[List.any_cons,h,Bool.true_or]
   ·cases e
  | _=>cases e
end
section
variable {X:Cx}
theorem cQ:CallR X (.builtin "isinstance") (rB X.K X.mg bJ):=by
 intro pins s σ H xs us Q I rx ⟨μ,S,ds,d,rs,ra,e,q⟩
 unfold bJ at e
 split at e
 ·rename_i x0 n
  obtain ⟨v,w,rfl,r1,r2⟩:=gr ra
  split at e
  ·rename_i t et
   split at e
   ·rename_i hk
    cases e
    obtain ⟨h1,h2⟩:=qr rs r1 et
    unfold Rep at r2; subst r2
    exact call_isi pins s σ H _ us Q I rx ⟨v,.ty n,.type t,.type n,_,rfl,.ty n,h1,kit_ty (qp t h2 n (lw hk)),q H _ .rfl (bj _)⟩
   ·cases e
  ·cases e
 ·rename_i x0 cs
  obtain ⟨v,w,rfl,r1,r2⟩:=gr ra
  split at e
  ·rename_i t et
   obtain ⟨ns,h3,rfl⟩:=Option.map_eq_some_iff.mp e
   obtain ⟨h1,h2⟩:=qr rs r1 et
   unfold Rep at r2
   obtain ⟨tp,vs,rfl,htp,_,rcs⟩:=r2
   obtain ⟨ts,h4,h5⟩:=n4 h2 rcs h3
   exact call_isiT pins s σ H _ us Q I rx ⟨v,tp,vs,.type t,ts,_,rfl,htp,h4,h1,h5,q H _ .rfl (bj _)⟩
  ·cases e
 ·cases e
def fInt (_:Sto) (ds:List D):Option D:=match ds with
 | [.int i]=>some (.int i)
 | [.bool b]=>some (.int (if b then 1 else 0))
 | _=>none
def fMax2 (_:Sto) (ds:List D):Option D:=match ds with
 | [.int i,.int j]=>some (.int (if j>i then j else i))
 | _=>none
def fMin2 (_:Sto) (ds:List D):Option D:=match ds with
 | [.int i,.int j]=>some (.int (if j<i then j else i))
 | _=>none
def ez:List D→Option (List Int)
 | []=>some []
 | .int i::ds=>(ez ds).map (i::·)
 | _::_=>none
def gt:List D→Option (List Bool)
 | []=>some []
 | .bool i::ds=>(gt ds).map (i::·)
 | _::_=>none
theorem n6 {K:PySem.W.Frag} {mg:Str→Option Value} {μ:Mu} {H:Hp}:∀ {ds:List D} {vs:List V} {ns:List Int},RepAll K mg μ H ds vs→ez ds=some ns→vs=ns.map V.int
 | [],vs,ns,r,e=>by unfold RepAll at r; cases e; exact r
 | d::ds,vs,ns,r,e=>by
  unfold RepAll at r
  obtain ⟨v,q,rfl,r1,r2⟩:=r
  cases d with
  | int i=>
   unfold ez at e
   obtain ⟨ms,h1,rfl⟩:=Option.map_eq_some_iff.mp e
   unfold Rep at r1
   rw[r1,n6 r2 h1]; rfl
  | _=>cases e
theorem lx {K:PySem.W.Frag} {mg:Str→Option Value} {μ:Mu} {H:Hp}:∀ {ds:List D} {vs:List V} {ns:List Bool},RepAll K mg μ H ds vs→gt ds=some ns→vs=ns.map V.bl
 | [],vs,ns,r,e=>by unfold RepAll at r; cases e; exact r
 | d::ds,vs,ns,r,e=>by
  unfold RepAll at r
  obtain ⟨v,q,rfl,r1,r2⟩:=r
  cases d with
  | bool i=>
   unfold gt at e
   obtain ⟨ms,h1,rfl⟩:=Option.map_eq_some_iff.mp e
   unfold Rep at r1
   rw[r1,lx r2 h1]; rfl
  | _=>cases e
def fSum (S:Sto) (ds:List D):Option D:=match ds with
 | [d]=>match view S d with
  | .lst xs=>(ez xs).map fun ns=>.int ns.sum
  | _=>none
 | _=>none
def mX (S:Sto) (ds:List D):Option D:=match ds with
 | [d]=>match view S d with
  | .lst xs=>(gt xs).map fun ns=>.bool (ns.all id)
  | _=>none
 | _=>none
theorem tO (hc:X.calm=true):CallR X (.builtin "all") (rB X.K X.mg mX):=ij (cr_all hc) fun xs H Q ⟨μ,S,ds,d,rs,ra,e,q⟩=>by
 unfold mX at e
 split at e
 ·obtain ⟨v,rfl,r1⟩:=cP ra
  have rw0:=rs.view r1
  split at e
  ·rename_i ys ev
   rw[ev] at rw0
   obtain ⟨ns,h1,rfl⟩:=Option.map_eq_some_iff.mp e
   obtain ⟨a,vs,rfl,h,l⟩:=rw0
   exact ⟨a,ns,rfl,by rw[←lx l h1]; exact .of h,q H _ .rfl (bj _)⟩
  ·cases e
 ·cases e
def jx (S:Sto) (ds:List D):Option D:=match ds with
 | [.tup xs]=>some (.tup xs)
 | [.tpn xs]=>some (.tpn xs)
 | [d]=>match view0 S d with
  | .lst xs=>some (.tpn xs)
  | _=>none
 | _=>none
/-- tuple(a list): what it makes has no dict -/
theorem ke:CallR X (.type "tuple") (fun xs H Q=>∃p ys,xs=[.ref p]∧((SqL X.K H p ys∧∀l o,H l=none→o.dict=none→Q (.ref l) (upd H l (.frz o (.tup ys))))∨(SqT X.K H p ys∧Q (.ref p) H))):=by
 intro pins s σ H xs us Q I r h
 obtain ⟨p,ys,rfl,h⟩:=h
 rcases h with ⟨hq,q⟩|⟨hq,q⟩
 ·obtain ⟨u,rfl,rx⟩:=vals1 r
  cases rx
  obtain ⟨its,r',pl,hz⟩:=I.list hq
  have hlen:=r'.length
  refine call_tuple_list pl.isList (fun h' kp=>?_) (by simp only[List.size_toArray]<;>omega)
  have I1:L2.Inv X pins σ H { s with heap:=h' }:=I.kept (t':=s.toks) kp
  have I2:L2.Inv X pins σ (upd H h'.objs.size (.frz { cls:=.type "tuple",data:=.seq its.toArray } (.tup ys))) { s with heap:=h'.push { cls:=.type "tuple",data:=.seq its.toArray } }:=
   I1.laid (t':=s.toks) (fun b o e=>Heap.get?_push_of_some _ e) (Nat.le_refl _) (show ObjOk X.prog X.w _ _ _ (.frz _ (.tup ys)) from ⟨Heap.get?_push_size _ rfl,hz,its,r',IsTup.new _ _⟩)
  exact ⟨.ref h'.objs.size,_,I2,rfl,q _ _ (I1.hok.fresh (Nat.le_refl _)) rfl⟩
 ·exact call_tuple_of pins s σ H _ us Q I r ⟨p,ys,rfl,.inr ⟨hq,q⟩⟩
theorem fN {K:PySem.W.Frag} {mg:Str→Option Value} {μ:Mu} {H:Hp} {S:Sto} (rs:RelS K mg μ H S) {p:Addr} {o:Obj} (hp:H p=none) (ho:o.dict=none) {ds:List D} {vs:List V} (l:RepAll K mg μ H ds vs) :
  Rep K mg μ (upd H p (.frz o (.tup vs))) (.tpn ds) (.ref p):=by
 unfold Rep
 exact ⟨p,vs,o,rfl,⟨upd_same,ho⟩,rs.fresh hp,RepAll.step (.of_sm (.upd hp)) _ _ l⟩
theorem kg:CallR X (.type "tuple") (rB X.K X.mg jx):=ij ke fun xs H Q ⟨μ,S,ds,d,rs,ra,e,q⟩=>by
 unfold jx at e
 split at e
 ·obtain ⟨v,rfl,r1⟩:=cP ra
  cases e
  have r2:=r1
  unfold Rep at r2
  obtain ⟨a,vs,rfl,h,n,l⟩:=r2
  exact ⟨a,vs,rfl,.inr ⟨.of h,q H _ .rfl r1⟩⟩
 ·obtain ⟨v,rfl,r1⟩:=cP ra
  cases e
  have r2:=r1
  unfold Rep at r2
  obtain ⟨a,vs,o,rfl,⟨h,_⟩,n,l⟩:=r2
  exact ⟨a,vs,rfl,.inr ⟨.inl (.inr ⟨o,h⟩),q H _ .rfl r1⟩⟩
 ·obtain ⟨v,rfl,r1⟩:=cP ra
  have rw0:=rs.view0 r1
  split at e
  ·rename_i ys ev
   rw[ev] at rw0
   cases e
   obtain ⟨a,vs,rfl,h,l⟩:=rw0
   exact ⟨a,vs,rfl,.inl ⟨.of h,fun p o hp ho=>q _ _ (.upd hp) (fN rs hp ho l)⟩⟩
  ·cases e
 ·cases e
def n8 (S:Sto) (ds:List D):Option D:=match ds with
 | [d]=>match view S d with
  | .lst xs=>some (.lst xs)
  | .tup xs=>some (.lst xs)
  | _=>none
 | _=>none
theorem c_list:CallR X (.type "list") (rB X.K X.mg n8):=ij call_list_of fun xs H Q ⟨μ,S,ds,d,rs,ra,e,q⟩=>by
 unfold n8 at e
 split at e
 ·obtain ⟨v,rfl,r1⟩:=cP ra
  have rw0:=rs.view r1
  split at e
  ·rename_i ys ev
   rw[ev] at rw0
   cases e
   obtain ⟨a,vs,rfl,h,l⟩:=rw0
   exact ⟨a,vs,rfl,.inl (.of h),fun p hp=>q _ _ (.upd hp) (bz rs hp l)⟩
  ·rename_i ys ev
   rw[ev] at rw0
   cases e
   obtain ⟨a,vs,rfl,h,l,n⟩:=rw0.tup
   exact ⟨a,vs,rfl,.inr (.inl h),fun p hp=>q _ _ (.upd hp) (bz rs hp l)⟩
  ·cases e
 ·cases e
end
abbrev BM:=Sto→D→List D→Option (D × Sto)
def rM (K:PySem.W.Frag) (mg:Str→Option Value) (f:BM):V→List V→Hp→VK→Prop:=fun x xs H Q=>
 ∃μ S d ds r S',RelS K mg μ H S∧Rep K mg μ H d x∧RepAll K mg μ H ds xs∧f S d ds=some (r,S')∧∀μ' H' v,Step μ H μ' H'→RelS K mg μ' H' S'→Rep K mg μ' H' r v→Q v H'
def eM (ok:Sto→D→Bool) (f:BM) (ma:ME) (r:MA):ME:=fun env S=>(ma env S).bind fun d S=>if ok S d then (r env S).bind fun ds S=>match f S d ds with
 | some p=>.ok p.1 p.2
 | none=>.stuck else .stuck
def eD (S:Sto) (d:D):Bool:=match view S d with
 | .lst _=>true
 | _=>false
def pW (_:Sto) (d:D):Bool:=match d with
 | .str _=>true
 | _=>false
section
variable {X:Cx} {W:WX} {o e:Expr} {es:List Expr} {apos cpos:Pos} {ma:ME} {r:MA} {f:BM} {ok:Sto→D→Bool} {T id:String} {name:Str}
theorem jN {K:PySem.W.Frag} {mg:Str→Option Value} {μ:Mu} {H:Hp} {S:Sto} {d:D} {x:V} (rs:RelS K mg μ H S) (r:Rep K mg μ H d x) (h:eD S d=true):tyV K "list" x H:=by
 unfold eD at h
 have w:=rs.view r
 split at h
 ·rename_i xs ev
  rw[ev] at w
  obtain ⟨a,vs,rfl,h,_⟩:=w
  exact .inl ⟨rfl,vs,.of h⟩
 ·cases h
theorem ty_str {K:PySem.W.Frag} {mg:Str→Option Value} {μ:Mu} {H:Hp} {S:Sto} {d:D} {x:V} (rs:RelS K mg μ H S) (r:Rep K mg μ H d x) (h:pW S d=true):tyV K "str" x H:=by
 unfold pW at h
 split at h
 ·unfold Rep at r; subst r; rfl
 ·cases h
theorem pX (hok:∀ {μ:Mu} {H:Hp} {S:Sto} {d:D} {x:V},RelS X.K X.mg μ H S→Rep X.K X.mg μ H d x→ok S d=true→tyV X.K T x H) (pa:PlainAttrs T) (slot:Slot T name id) (hty:typeOf (.builtin id)=pure (.type "method_descriptor")) (hm:MtR X id (rM X.K X.mg f)) (ho:PE X o (tE X W ma)) (ha:PA X (e::es) (tAs X W r))
  (hbase:attributeBase o name X.env (eval o X.env)=eval o X.env:=by rfl)
  (hfew:((backTo cpos (starEach (e::es) X.env)).all (fun x=>!x.1)&&(backToKw cpos (keywordEach [] X.env)).all (fun x=>x.1.isSome)
   && decide ((e::es).length+([]:List Keyword).length+(if ([]:List Keyword).isEmpty then 0 else 1)<30))=true:=by rfl)
  (hline:(apos.endLine == cpos.line)=true:=by rfl) (hs:starEach (e::es) X.env=(false,eval e X.env)::starEach es X.env:=by rfl) (hplain:(backTo cpos (starEach es X.env)).any (·.1)=false:=by rfl) :
  PE X (.Call (.Attribute o name apos) (e::es) [] cpos) (tE X W (eM ok f ma r)):=
 b4 (pe_bm pa slot hty hm ho ha hbase hfew hline hs hplain) fun σ H Q ⟨env,S,μ,rl,o⟩=>⟨env,S,μ,rl,(Out.bind o).mono fun x H1 ⟨μ1,S1,d,st,rs,rd,o1⟩=>by
  split at o1
  ·rename_i hk
   refine ⟨hok rs rd hk,env,S1,μ1,⟨rl.env.step st,rs⟩,(Out.bind o1).mono fun xs H2 ⟨μ2,S2,ds,st2,rs2,rds,o2⟩=>?_⟩
   cases ef:f S2 d ds with
   | none=>rw[ef] at o2; exact o2.elim
   | some p=>rw[ef] at o2; exact ⟨μ2,S2,d,ds,p.1,p.2,rs2,Rep.step st2 _ _ rd,rds,ef,o2⟩
  ·exact o1.elim⟩
theorem mY {r r':V→List V→Hp→VK→Prop} (h:MtR X id r) (i:∀x xs H Q,r' x xs H Q→r x xs H Q):MtR X id r':=fun pins s σ H x xs v us Q I rx rxs w=>h pins s σ H x xs v us Q I rx rxs (i _ _ _ _ w)
/-- xs.append(d) -/
def df:BM:=fun S d ds=>match d,ds with
 | .loc l,[a]=>match S[l]? with
  | some (.lst xs)=>if xs.length<1000000 then some (.none,S.set l (.lst (xs++[a]))) else none
  | _=>none
 | _,_=>none
theorem ik:MtR X "list.append" (rM X.K X.mg df):=mY mt_append fun x xs H Q ⟨μ,S,d,ds,r,S',rs,rd,rds,e,q⟩=>by
 unfold df at e
 split at e
 ·rename_i l a
  unfold Rep at rd
  obtain ⟨ad,rfl,hμ⟩:=rd
  obtain ⟨v,rfl,rv⟩:=cP rds
  split at e
  ·rename_i ys es
   split at e
   ·rename_i hl
    cases e
    obtain ⟨a',h1,vs,h2,h3⟩:=rs.at_ _ _ es
    rw[hμ] at h1; cases h1
    have st:Step μ H μ (upd H ad (.lst (vs++[v]))):=Step.write rs hμ (.of h2)
    refine ⟨ad,vs,v,rfl,rfl,h2,by rw[←h3.length,sizeLine_eq]; omega,q μ _ .non st (rs.write hμ (.of h2) ⟨_,upd_same,RepAll.step st _ _ (h3.append (.cons rv .nil))⟩) iX⟩
   ·cases e
  ·cases e
 ·cases e
end
def kh (t:Bool) (kvs:List (D × D)) (k v:D):List (D × D):=
 if (kvs.any fun p=>keq t p.1 k)=true then kvs.map (fun p=>if keq t p.1 k=true then (p.1,v) else p) else kvs++[(k,v)]
theorem j9 {κ:Type} [DecidableEq κ] {f:κ→D} {g:D→D→Bool} (hg:∀a b,g (f a) (f b)=decide (a=b)) {K:PySem.W.Frag} {mg:Str→Option Value} {μ:Mu} {H:Hp} (k:κ) {d:D} {v:V} (rd:Rep K mg μ H d v) {kvs:List (D × D)} {ks:List κ} {vs:List V} (e:kvs.map (·.1)=ks.map f) (r:RepAll K mg μ H (kvs.map (·.2)) vs) :
  ∃(ks':List κ) (vs':List V),putK (ks.zip vs) k v=ks'.zip vs'∧(if (kvs.any fun p=>g p.1 (f k))=true then kvs.map (fun p=>if g p.1 (f k)=true then (p.1,d) else p) else kvs++[(f k,d)]).map (·.1)=ks'.map f∧
   RepAll K mg μ H ((if (kvs.any fun p=>g p.1 (f k))=true then kvs.map (fun p=>if g p.1 (f k)=true then (p.1,d) else p) else kvs++[(f k,d)]).map (·.2)) vs':=by
 have any:∀ {kvs:List (D × D)} {ks:List κ} {vs:List V},kvs.map (·.1)=ks.map f→RepAll K mg μ H (kvs.map (·.2)) vs→(kvs.any fun p=>g p.1 (f k))=((ks.zip vs).any fun p=>decide (p.1=k)):=by
  intro kvs
  induction kvs with
  | nil=>
   intro ks vs e r
   have:ks=[]:=by cases ks with|nil=>rfl|cons a b=>cases e
   subst this; rfl
  | cons p kvs ih=>
   intro ks vs e r
   cases ks with
   | nil=>cases e
   | cons k' ks=>
    have r:RepAll K mg μ H (p.2::kvs.map (·.2)) vs:=r
    unfold RepAll at r
    obtain ⟨v,q,rfl,r1,r2⟩:=r
    injection e with e1 e2
    rw[List.zip_cons_cons,List.any_cons,List.any_cons,ih e2 r2]
    have e1:p.1=f k':=e1
    rw[e1,hg]
 have mp:∀ {kvs:List (D × D)} {ks:List κ} {vs:List V},kvs.map (·.1)=ks.map f→RepAll K mg μ H (kvs.map (·.2)) vs→
   ∃vs':List V,(ks.zip vs).map (fun p=>if p.1=k then (p.1,v) else p)=ks.zip vs'∧(kvs.map fun p=>if g p.1 (f k)=true then (p.1,d) else p).map (·.1)=ks.map f∧RepAll K mg μ H ((kvs.map fun p=>if g p.1 (f k)=true then (p.1,d) else p).map (·.2)) vs':=by
  intro kvs
  induction kvs with
  | nil=>
   intro ks vs e r
   have:ks=[]:=by cases ks with|nil=>rfl|cons a b=>cases e
   subst this; exact ⟨[],rfl,rfl,.nil⟩
  | cons p kvs ih=>
   intro ks vs e r
   cases ks with
   | nil=>cases e
   | cons k' ks=>
    have r:RepAll K mg μ H (p.2::kvs.map (·.2)) vs:=r
    unfold RepAll at r
    obtain ⟨w,q,rfl,r1,r2⟩:=r
    injection e with e1 e2
    have e1:p.1=f k':=e1
    obtain ⟨vs',h1,h2,h3⟩:=ih e2 r2
    have hgk:g p.1 (f k)=decide (k'=k):=by rw[e1,hg]
    have hf1:(if g p.1 (f k)=true then (p.1,d) else p).1=f k':=by split<;>exact e1
    by_cases hk:k'=k
    ·refine ⟨v::vs',?_,?_,?_⟩
     ·rw[List.zip_cons_cons,List.map_cons,h1,List.zip_cons_cons]; simp[hk]
     ·rw[List.map_cons,List.map_cons,h2,List.map_cons,hf1]
     ·rw[List.map_cons,List.map_cons]
      simp only[hgk,hk,decide_true,if_true]
      exact .cons rd h3
    ·refine ⟨w::vs',?_,?_,?_⟩
     ·rw[List.zip_cons_cons,List.map_cons,h1,List.zip_cons_cons]; simp[hk]
     ·rw[List.map_cons,List.map_cons,h2,List.map_cons,hf1]
     ·rw[List.map_cons,List.map_cons]
      simp only[hgk,hk,decide_false,Bool.false_eq_true,if_false]
      exact .cons r1 h3
 have ha:=any e r
 unfold putK
 rw[ha]
 by_cases hb:((ks.zip vs).any fun p=>decide (p.1=k))=true
 ·rw[if_pos hb,if_pos hb]
  obtain ⟨vs',h1,h2,h3⟩:=mp e r
  exact ⟨ks,vs',h1,h2,h3⟩
 ·rw[if_neg hb,if_neg hb]
  have hl:ks.length=vs.length:=by
   have h1:=congrArg List.length e
   have h2:=r.length
   simp only[List.length_map] at h1 h2
   omega
  refine ⟨ks++[k],vs++[v],by rw[List.zip_append hl]; rfl,by simp[e],?_⟩
  rw[List.map_append]
  exact r.append (.cons rd .nil)
theorem put_ok {K:PySem.W.Frag} {mg:Str→Option Value} {μ:Mu} {H:Hp} {t:Bool} {kvs:List (D × D)} {a:Addr} {k d:D} {y v:V} (h:RepO K mg μ H (.dct t kvs) a) (hk:cp t k=true) (rk:Rep K mg μ H k y) (rd:Rep K mg μ H d v) (hl:kvs.length<1000000) :
  ∃ho,DPut H a y v (upd H a ho)∧∀ {μ':Mu},Step μ H μ' (upd H a ho)→RepO K mg μ' (upd H a ho) (.dct t (kh t kvs k d)) a:=by
 cases t with
 | false=>
  obtain ⟨vs,ks,⟨e,q⟩,rs⟩:=h
  obtain ⟨kk,rfl⟩:=nY hk
  rw[gq rk]
  obtain ⟨ks',vs',h1,h2,h3⟩:=j9 nX kk rd q rs
  have hz:(ks.zip vs).length<sizeLine:=by rw[j8 q rs,sizeLine_eq]; omega
  refine ⟨_,.k e hz,fun st=>?_⟩
  rw[h1] at *
  exact ⟨vs',ks',⟨upd_same,h2⟩,RepAll.step st _ _ h3⟩
 | true=>
  obtain ⟨vs,ks,⟨e,q⟩,rs⟩:=h
  obtain ⟨kk,rfl⟩:=sj hk
  obtain ⟨b,rfl,hb⟩:=kL rk
  obtain ⟨ks',vs',h1,h2,h3⟩:=j9 si kk rd q rs
  have hz:(ks.zip vs).length<sizeLine:=by rw[j8 q rs,sizeLine_eq]; omega
  refine ⟨_,.t e hb hz,fun st=>?_⟩
  rw[h1] at *
  exact ⟨vs',ks',⟨upd_same,h2⟩,RepAll.step st _ _ h3⟩
def eE (S:Sto) (o i v:D):Option Sto:=match o with
 | .loc l=>match S[l]? with
  | some (.lst xs)=>match i with
   | .int k=>match ixN xs.length k with
    | some j=>some (S.set l (.lst (xs.set j v)))
    | none=>none
   | _=>none
  | some (.dct t kvs)=>if cp t i=true∧kvs.length<1000000 then some (S.set l (.dct t (kh t kvs i v))) else none
  | _=>none
 | _=>none
def rPut (K:PySem.W.Frag) (mg:Str→Option Value):TSet:=fun o i v H Q=>∃μ S od id vd S',RelS K mg μ H S∧Rep K mg μ H od o∧Rep K mg μ H id i∧Rep K mg μ H vd v∧eE S od id vd=some S'∧∀μ' H',Step μ H μ' H'→RelS K mg μ' H' S'→Q H'
section
variable {X:Cx} {W:WX}
theorem vH (hu:X.A.units+1<cLine):PSet X (rPut X.K X.mg):=by
 intro pins s σ H o i v ov iv u Q I ro ri rv ⟨μ,S,od,id,vd,S',rs,rod,rid,rvd,e,q⟩
 unfold eE at e
 split at e
 ·rename_i l
  unfold Rep at rod
  obtain ⟨a,rfl,hμ⟩:=rod
  split at e
  ·rename_i xs es
   obtain ⟨a',h1,vs,h2,h3⟩:=rs.at_ _ _ es
   rw[hμ] at h1; cases h1
   split at e
   ·rename_i k
    unfold Rep at rid
    subst rid
    split at e
    ·rename_i j ej
     cases e
     have st:Step μ H μ (upd H a (.lst (vs.set j v))):=Step.write rs hμ (.of h2)
     exact set_list pins s σ H _ _ _ ov iv u Q I ro ri rv ⟨a,vs,k,j,rfl,rfl,h2,by rw[←h3.length]; exact ej,q μ _ st (rs.write hμ (.of h2) ⟨_,upd_same,RepAll.step st _ _ (h3.set rvd j)⟩)⟩
    ·cases e
   ·cases e
  ·rename_i t kvs es
   split at e
   ·rename_i hk
    cases e
    obtain ⟨a',h1,h2⟩:=rs.at_ _ _ es
    rw[hμ] at h1; cases h1
    obtain ⟨ho,hp,hr⟩:=put_ok h2 hk.1 rid rvd hk.2
    have nf:NF H a:=by
     cases t<;>(obtain ⟨vs,ks,⟨q,_⟩,_⟩:=h2; exact .of q)
    have st:Step μ H μ (upd H a ho):=Step.write rs hμ nf
    exact set_dict hu pins s σ H _ _ _ ov iv u Q I ro ri rv ⟨a,_,rfl,hp,q μ _ st (rs.write hμ nf (hr st))⟩
   ·cases e
  ·cases e
 ·cases e
def ki (mo mi:ME):MG:=fun v env S=>match mo env S with
 | .ok o S=>match mi env S with
  | .ok i S=>(eE S o i v).map fun S=>(env,S)
  | _=>none
 | _=>none
theorem mZ {o i:Expr} {mo mi:ME} {pos:Pos} (hu:X.A.units+1<cLine) (ho:PE X o (tE X (fun _ _ _ _=>False) mo)) (hi:PE X i (tE X (fun _ _ _ _=>False) mi))
  (ha:∀v,assign (.Subscript o i pos) X.env v=(do
   let ov ←holding [v] (eval o X.env)
   let iv ←holding [v,ov] (eval i X.env)
   standAt pos
   holding [v,ov,iv] (setItem ov iv v)
   release [v,ov,iv] []):=by intro v; rfl):PG X (.Subscript o i pos) (tG X (ki mo mi)):=
 nk (pg_sub ho hi (vH hu) ha) fun v σ H Q ⟨env,S,μ,d,rl,r,o⟩=>by
  unfold ki at o
  refine ⟨env,S,μ,rl,?_⟩
  cases hmo:mo env S with
  | exc a b=>simp only[hmo] at o; exact o.elim
  | stuck=>simp only[hmo] at o; exact o.elim
  | ok od S1=>
   simp only[hmo] at o
   intro μ1 H1 ov st1 rs1 ro
   refine ⟨env,S1,μ1,⟨rl.env.step st1,rs1⟩,?_⟩
   cases hmi:mi env S1 with
   | exc a b=>simp only[hmi] at o; exact o.elim
   | stuck=>simp only[hmi] at o; exact o.elim
   | ok id S2=>
    simp only[hmi] at o
    intro μ2 H2 iv st2 rs2 ri
    cases hs:eE S2 od id d with
    | none=>simp only[hs] at o; exact o.elim
    | some S3=>
     simp only[hs] at o
     exact ⟨μ2,S2,od,id,d,S3,rs2,Rep.step st2 _ _ ro,ri,Rep.step (st1.trans st2) _ _ r,hs,fun μ' H' st rs'=>o μ' H' σ ((st1.trans st2).trans st) (rl.env.step ((st1.trans st2).trans st)) rs'⟩
def eRev (m:ME):ME:=fun env S=>(m env S).bind fun d S=>match view S d with
 | .lst xs=>.ok (.lst xs.reverse) S
 | _=>.stuck
theorem RepAll.reverse {K:PySem.W.Frag} {mg:Str→Option Value} {μ:Mu} {H:Hp}:∀ {ds:List D} {vs:List V},RepAll K mg μ H ds vs→RepAll K mg μ H ds.reverse vs.reverse
 | [],_,h=>by unfold RepAll at h; subst h; exact .nil
 | d::ds,_,h=>by
  unfold RepAll at h
  obtain ⟨v,r,rfl,h1,h2⟩:=h
  rw[List.reverse_cons,List.reverse_cons]
  exact (RepAll.reverse h2).append (.cons h1 .nil)
theorem pe_rev {e st:Expr} {te:TE} {p3 pos:Pos} (he:PE X e te) (hst:∀σ H,∃t,PE X st t∧t σ H fun v H'=>v=.int (-1)∧H'=H):PE X (.Subscript e (.Slice none none (some st) p3) pos) (tRevL X.K te):=by
 refine ⟨fun pins s σ H Q I h=>?_⟩
 refine Subscript_ (thn (he.run pins s σ H _ I h) fun v s1 ⟨x,H1,I1,r1,q1⟩=>?_)
 obtain ⟨a,xs,ex,hx,q⟩:=q1
 subst ex
 cases r1
 refine wpAny_Slice (thn (po_none.run pins s1 σ H1 (fun o H2=>o=none∧H2=H1) I1 ⟨rfl,rfl⟩) fun vl s2 ⟨l,H2,I2,pl,el,e2⟩=>?_)
 subst el e2
 refine thn (po_none.run pins s2 σ H2 (fun o H3=>o=none∧H3=H2) I2 ⟨rfl,rfl⟩) fun vu s3 ⟨u,H3,I3,pu,eu,e3⟩=>?_
 subst eu e3
 obtain ⟨t,ht,hq⟩:=hst σ H3
 refine thn (ht.run pins s3 σ H3 _ I3 hq) fun vs s4 ⟨o,H4,I4,ps,eo,e4⟩=>?_
 subst eo e4
 obtain ⟨tk,ps⟩:=ps
 have ps':IsPart vs (some (-1)):=by rw[ps]; exact .int _ _
 have I5:Inv X pins σ H4 { s4 with heap:=s4.heap.push { cls:=.type "slice",data:=.fields #[vl,vu,vs] } }:=I4.kept (t':=s4.toks) fun b ob q=>Heap.get?_push_of_some _ q
 obtain ⟨its,r,ht,hz⟩:=I5.list hx
 have hlen:=r.length
 show wpAny (model X.prog X.w) X.A (subscriptTail e (.Slice none none (some st) p3) (.ref a) (.ref s4.heap.objs.size)) (EP X pins σ Q) X.xe { s4 with heap:=s4.heap.push { cls:=.type "slice",data:=.fields #[vl,vu,vs] } }
 refine tail_any (ops:=[.ref a,.ref s4.heap.objs.size]) ht.isList.typeIs (PySem.slot_list_getitem.lookup) ?_ zqW
 refine wpAny_getItem_list_slice ht.isList (Heap.IsSliceOf.new _ vl vu vs) pl pu ps' (by decide) ?_ (by rw[List.size_toArray]; omega)
 rw[PySem.W.krv_pick]
 refine ⟨.ref _,_,I5.laid (t':=s4.toks) (o:=.lst xs.reverse) (fun b ob q=>Heap.get?_push_of_some _ q) (Nat.le_refl _) ?_,rfl,q _ (I5.hok.fresh (Nat.le_refl _))⟩
 exact ⟨by rw[List.length_reverse]; exact hz,_,0,r.reverse,Heap.get?_push_size _ rfl⟩
theorem t_rev {m:ME} {σ:L2.St} {H:Hp} {Q:VK} (h:tE X W (eRev m) σ H Q):tRevL X.K (tE X W m) σ H Q:=by
 obtain ⟨env,S,μ,rl,o⟩:=h
 refine ⟨env,S,μ,rl,(Out.bind o).mono fun x H1 ⟨μ1,S1,d,st,rs,rd,o1⟩=>?_⟩
 have rw0:=rs.view rd
 split at o1
 ·rename_i xs ev
  rw[ev] at rw0
  obtain ⟨a,vs,rfl,h1,h2⟩:=rw0
  exact ⟨a,vs,rfl,.of h1,fun p hp=>o1 μ1 _ (.ref p) (.of_sm (.upd hp)) (rs.sm (.upd hp)) (bz rs hp h2.reverse)⟩
 ·exact o1.elim
/-- xs[::0 - 1] -/
theorem sE_rev {e:Expr} {m:ME} {k1 k2:Nat} {p1 p2 p3 p4 pos:Pos} (he:PE X e (tE X W m)):PE X (.Subscript e (.Slice none none (some (.BinOp (.Constant (.int 0) k1 p1) .Sub (.Constant (.int 1) k2 p2) p4)) p3) pos) (tE X W (eRev m)):=
 b4 (pe_rev he fun σ H=>⟨_,pe_op op_sub pe_int pe_int,⟨0,1,rfl,rfl,rfl,rfl⟩⟩) fun σ H Q h=>t_rev h
end
section
variable {K:PySem.W.Frag} {mg:Str→Option Value} {μ:Mu} {H:Hp} {S:Sto}
theorem Stp.reveal {p:Addr} {h':List Addr} (hp:p∈μ.h) (hs:∀a∈h',a∈μ.h):Stp μ H ⟨μ.l++[p],h'⟩ H:=
 ⟨⟨⟨[p],rfl⟩,fun a ha=>.inl (by
  rcases ha with z|z
  ·rcases List.mem_append.mp z with e|e
   ·exact .inl e
   ·have:a=p:=by simpa using e
    subst this; exact .inr hp
  ·exact .inr (hs a z)),fun _ _ e _ _=>e⟩,fun _ _ _ e=>e⟩
theorem RelS.reveal {p:Addr} {o:O} {h':List Addr} (rs:RelS K mg μ H S) (hp:p∈μ.h) (hs:∀a∈h',a∈μ.h) (hn:p∉h') (r:RepO K mg μ H o p):RelS K mg ⟨μ.l++[p],h'⟩ H (S++[o]):=by
 have np:p∉μ.l:=fun z=>rs.dis p z hp
 have st:Stp μ H ⟨μ.l++[p],h'⟩ H:=.reveal hp hs
 refine ⟨by simp[rs.len],List.nodup_append.mpr ⟨rs.nd,zqS,fun a ha b hb=>?_⟩,fun a ha z=>?_,fun a ha=>rs.hid a (hs a ha),fun l u e=>?_,rs.tab⟩
 ·have:b=p:=by simpa using hb
  subst this
  exact fun z=>np (z▸ha)
 ·rcases List.mem_append.mp ha with e|e
  ·exact rs.dis a e (hs a z)
  ·have:a=p:=by simpa using e
   subst this; exact hn z
 ·by_cases hl:l<S.length
  ·rw[List.getElem?_append_left hl] at e
   obtain ⟨a,h1,h2⟩:=rs.at_ l u e
   exact ⟨a,st.get h1,h2.step st fun w q=>q⟩
  ·rw[List.getElem?_append_right zqO] at e
   have hl2:l - S.length=0:=by
    have:=(List.getElem?_eq_some_iff.mp e).1
    simp at this; omega
   rw[hl2] at e
   simp at e
   subst e
   have:l=S.length:=zqO
   subst this
   exact ⟨p,by rw[rs.len]; simp,r.step st fun w q=>q⟩
end
def dle (a b:D):Bool:=PySem.W.dataLe false pdF a b
def tQ (xs:List D):Bool:=xs.all (dok 60)&&(xs.all fun a=>xs.all fun b=>PySem.W.alike (pdF a) (pdF b)) &&
 ((xs.all fun a=>match a with
  | .tup (_::_)=>true
  | .tpn (_::_)=>true
  | _=>false)||xs.all fun a=>match a with
  | .tup _=>false
  | .tpn _=>false
  | .none=>false
  | _=>true)
def pZ (S:Sto) (d:D):Option (List D):=match view S d with
 | .lst xs=>some xs
 | .ro xs=>some xs
 | _=>none
def pairOf:D→Option (D × D)
 | .tup [k,v]=>if cp false k=true then some (k,v) else none
 | _=>none
def gu:List D→Option (List (D × D))
 | []=>some []
 | d::ds=>match pairOf d,gu ds with
  | some p,some ps=>some (p::ps)
  | _,_=>none
def eF (kvs:List (D × D)):List (D × D)→List (D × D)
 | []=>kvs
 | p::ps=>eF (kh false kvs p.1 p.2) ps
def tR (r:MA):ME:=fun env S=>(r env S).bind fun ds S=>match ds with
 | [.tpn xs]=>match gu xs with
  | some ps=>if xs.length≤1000000 then .ok (.loc S.length) (S++[.dct false (eF [] ps)]) else .stuck
  | none=>.stuck
 | _=>.stuck
section
variable {X:Cx}
theorem tU {pins:List (Addr × Obj)} {σ:L2.St} {H:Hp} {s:Shared} (I:L2.Inv X pins σ H s):∀ {ps:List Addr} {kvs:List (Key × V)},Paired (fun p kv=>SqT X.K H p [kV kv.1,kv.2]) ps kvs→
  ∃(prs:List (Key × Value)) (uvs:List (Value × Value)),KV kvs prs∧prs.length=ps.length∧uvs.length=ps.length∧∀(j:Nat) (u v:Value),uvs[j]?=some (u,v)→∃(b:Addr) (k:Key),ps[j]?=some b∧IsTup s.heap b #[u,v]∧keyIs k u=true∧prs[j]?=some (k,v)
 | _,_,.nil=>⟨[],[],.nil,rfl,rfl,fun j u v e=>by simp at e⟩
 | _,_,.cons (a:=p) (b:=kv) h t=>by
  obtain ⟨prs,uvs,r,hl,hl2,hp⟩:=tU I t
  obtain ⟨its,rv,ht,_⟩:=I.tuple h
  obtain ⟨u,y,ei,ru,ry⟩:=vals2 rv
  subst ei
  refine ⟨(kv.1,y)::prs,(u,y)::uvs,.cons ⟨rfl,ry⟩ r,by rw[List.length_cons,List.length_cons,hl],by rw[List.length_cons,List.length_cons,hl2],fun j u' v' e=>?_⟩
  cases j with
  | zero=>
   have e':(u,y)=(u',v'):=Option.some.inj e
   cases e'
   exact ⟨p,kv.1,rfl,ht,kV_is (P:=X.prog) (w:=X.w) ru,rfl⟩
  | succ j=>
   obtain ⟨b,k,e1,e2,e3,e4⟩:=hp j u' v' (by simpa using e)
   exact ⟨b,k,by simpa using e1,e2,e3,by simpa using e4⟩
theorem n9 (hcalm:X.calm=true):CallR X (.type "dict") (fun xs H Q=>∃(a:Addr) (o:Obj) (ps:List Addr) (kvs:List (Key × V)),xs=[.ref a]∧H a=some (.frz o (.tup (ps.map V.ref)))∧o.dict=none∧Paired (fun p kv=>SqT X.K H p [kV kv.1,kv.2]) ps kvs∧
  ∀p,H p=none→Q (.ref p) (upd H p (.dK (mergeK [] kvs)))):=by
 intro pins s σ H xs us Q I r q
 obtain ⟨a,o,ps,kvs,ex,hq,hd,hp,q⟩:=q
 subst ex
 obtain ⟨u,eu,rx⟩:=vals1 r
 subst eu
 cases rx
 obtain ⟨ho,hz,its,rv,o',ho',hc,n,hdat⟩:=I.hok a _ hq
 rw[ho] at ho'; cases ho'
 have ei:=refs_at rv
 subst ei
 rw[List.length_map] at hz
 obtain ⟨prs,uvs,rel,hl,hl2,hpr⟩:=tU I hp
 have at_:∀(j:Nat) (k v:Value),uvs[j]?=some (k,v)→(List.toArray (ps.map Value.ref))[j]?=some (.ref ((ps[j]?).getD 0))∧PySem.PairAt s.heap ((ps[j]?).getD 0) k v:=fun j k v e=>by
  obtain ⟨b,kk,e1,e2,e3,e4⟩:=hpr j k v e
  refine ⟨?_,?_⟩
  ·simp[e1]
  ·rw[e1]; exact .inl e2
 refine PySem.call_dict_pairs (knd:=mixKind X.prog X.w) (kvs:=prs) (PySem.PairArg.tuple a (List.toArray (ps.map Value.ref)) (fun j=>(ps[j]?).getD 0) uvs) (I.ok.hd hcalm) ⟨⟨o,n,ho,hc,hd,hdat⟩,⟨by simp[hl2],at_⟩⟩ ⟨by rw[hl,hl2],fun i key v e=>?_⟩ (by rw[hl2]; exact hz) fun h' tk hd' k=>?_
 ·obtain ⟨b,kk,e1,e2,e3,e4⟩:=hpr i key v e
  exact ⟨kk,e4,e3⟩
 ·have hm:(s.heap.objs.size == sysModules)=false:=beq_eq_false_iff_ne.mpr (Nat.ne_of_gt I.big)
  have hlen:(mergeK [] kvs).length≤sizeLine:=by
   refine Nat.le_trans (length_mergeK kvs []) ?_
   rw[List.length_nil,Nat.zero_add,rel.length,hl]
   exact hz
  exact ⟨.ref s.heap.objs.size,upd H s.heap.objs.size (.dK (mergeK [] kvs)),I.laid (t':=tk) (fun b o e=>k b o zqS e) (Nat.le_refl _) (show ObjOk X.prog X.w _ _ _ (.dK (mergeK [] kvs)) from ⟨hlen,hm,merged [] prs,KV.merge rel .nil,hd'⟩),rfl,q _ (I.hok.fresh (Nat.le_refl _))⟩
end
section
variable {K:PySem.W.Frag} {mg:Str→Option Value} {μ:Mu} {H:Hp}
theorem qs:∀ {ps:List (D × D)} {kvs:List (Key × V)} {ds:List (D × D)} {acc:List (Key × V)},ps.map (·.1)=kvs.map (fun kv=>dR kv.1)→RepAll K mg μ H (ps.map (·.2)) (kvs.map (·.2))→(∃ks vs,acc=List.zip ks vs∧ds.map (·.1)=ks.map dR∧RepAll K mg μ H (ds.map (·.2)) vs)→
  ∃ks vs,mergeK acc kvs=List.zip ks vs∧(eF ds ps).map (·.1)=ks.map dR∧RepAll K mg μ H ((eF ds ps).map (·.2)) vs
 | [],kvs,ds,acc,e,r,h=>by
  have:kvs=[]:=by cases kvs with|nil=>rfl|cons a b=>cases e
  subst this; exact h
 | p::ps,kvs,ds,acc,e,r,⟨ks,vs,h1,h2,h3⟩=>by
  cases kvs with
  | nil=>cases e
  | cons kv kvs=>
   have r:RepAll K mg μ H (p.2::ps.map (·.2)) (kv.2::kvs.map (·.2)):=r
   unfold RepAll at r
   obtain ⟨v,q,ee,r1,r2⟩:=r
   cases ee
   injection e with e1 e2
   have e1:p.1=dR kv.1:=e1
   subst h1
   obtain ⟨ks',vs',g1,g2,g3⟩:=j9 nX kv.1 r1 h2 h3
   refine qs (ds:=kh false ds p.1 p.2) (acc:=putK (ks.zip vs) kv.1 kv.2) e2 r2 ⟨ks',vs',g1,?_,?_⟩
   ·unfold kh; rw[e1]; exact g2
   ·unfold kh; rw[e1]; exact g3
end
def jO (g:MG) (tc:MT) (mk mv:ME) (w:En) (d:D) (acc:List (D × D)) (S:Sto):Res (List (D × D)):=match g d w S with
 | none=>.stuck
 | some p=>(tc p.1 p.2).bindS fun c S2=>if c=true then (mk p.1 S2).bindS fun k S3=>(mv p.1 S3).bindS fun v S4=>if cp false k=true∧acc.length<1000000 then .ok (kh false acc k v) S4 else .stuck else .ok acc S2
def eG (g:MG) (tc:MT) (mk mv:ME) (w:En):List D→List (D × D)→Sto→Res (List (D × D))
 | [],acc,S=>.ok acc S
 | d::ds,acc,S=>(jO g tc mk mv w d acc S).bindS fun acc S=>eG g tc mk mv w ds acc S
/-- a dict laid -/
def kD:List (D × D)→Sto→Res D:=fun kvs S=>.ok (.loc S.length) (S++[.dct false kvs])
def kj (mi:MI) (g:MG) (tc:MT) (mk mv:ME) (vs:List Nat):ME:=fun env S=>(mi env S).bind fun it S=>match it with
 | .items ds=>(eG g tc mk mv (aa env vs) ds [] S).bind kD
 | .live _=>.stuck
 | .liveE _=>.stuck
section
variable {X:Cx} {W:WX} {e tg iter elt kx vx:Expr} {pos:Pos} {g:MG} {m mk mv:ME} {mi:MI} {tc:MT} {vs:List Nat}
/-- a dict that is being made -/
def DOk (K:PySem.W.Frag) (mg:Str→Option Value) (μ:Mu) (H:Hp) (p:Addr) (acc:List (D × D)):Prop:=∃(ks:List Key) (vs:List V),H p=some (.dK (ks.zip vs))∧acc.map (·.1)=ks.map dR∧RepAll K mg μ H (acc.map (·.2)) vs
theorem vI {W:WX} {vs:List Nat} {σ:L2.St} {w:En} {p:Addr} {Q:V→Hp→Prop} {μ1 μ2:Mu} {H1 H2:Hp} {S2:Sto} {d:D} {x:V} {acc:List (D × D)} {N:Hp→Prop} {f:List (D × D)→Sto→Res D}
  (re:RelE X.K X.mg μ2 H2 w (L2.wipe σ vs)) (rs:RelS X.K X.mg μ2 H2 S2) (hp:DOk X.K X.mg μ2 H2 p acc) (np:p∈μ2.h) (rx:Rep X.K X.mg μ2 H2 d x)
  (o:Out X.K X.mg W σ μ1 H1 (fun μ H a b=>Rep X.K X.mg μ H a b) Q ((jO g tc mk mv w d acc S2).bindS f))
  (hN:∀μ3 H3 S3 acc',StP p μ2 H2 μ3 H3→RelS X.K X.mg μ3 H3 S3→DOk X.K X.mg μ3 H3 p acc'→Out X.K X.mg W σ μ1 H1 (fun μ H a b=>Rep X.K X.mg μ H a b) Q (f acc' S3)→N H3) :
  tGc X vs g x (L2.wipe σ vs) H2 fun σ2 H3=>L2.wipe σ2 vs=L2.wipe σ vs∧tT X W0 tc σ2 H3 fun b H4=>if b=true then tE X W0 mk σ2 H4 fun y H5=>tE X W0 mv σ2 H5 fun z H6=>∃kvs k,y=kV k∧H6 p=some (.dK kvs)∧kvs.length<sizeLine∧N (upd H6 p (.dK (putK kvs k z))) else N H4:=by
 refine ⟨w,S2,μ2,d,⟨re,rs⟩,rx,?_⟩
 unfold jO at o
 obtain ⟨ks,us,hp,hk,ra⟩:=hp
 cases hg:g d w S2 with
 | none=>simp only[hg,Res.bindS] at o; exact o.elim
 | some q=>
  obtain ⟨e,Se⟩:=q
  simp only[hg] at o
  intro μ3 H3 σ3 st3 re3 rs3 hw
  refine ⟨hw.trans (jL vs vs σ fun i hi=>hi),e,Se,μ3,⟨re3,rs3⟩,?_⟩
  have hp3:=st3.hk _ _ np hp
  have np3:p∈μ3.h:=by rw[st3.hid]; exact np
  have ra3:=RepAll.step st3 _ _ ra
  cases htc:tc e Se with
  | exc a b=>simp only[htc,Res.bindS] at o; exact o.elim
  | stuck=>simp only[htc,Res.bindS] at o; exact o.elim
  | ok c S4=>
   simp only[htc,Res.bindS] at o
   intro μ4 H4 b st4 rs4 hb
   subst hb
   have hp4:=st4.hk _ _ np3 hp3
   have np4:p∈μ4.h:=by rw[st4.hid]; exact np3
   have ra4:=RepAll.step st4 _ _ ra3
   cases b with
   | false=>
    simp only[Bool.false_eq_true,if_false] at o ⊢
    exact hN μ4 H4 S4 acc (.of (st3.trans st4)) rs4 ⟨ks,us,hp4,hk,ra4⟩ o
   | true=>
    simp only[if_true] at o ⊢
    refine ⟨e,S4,μ4,⟨re3.step st4,rs4⟩,?_⟩
    cases hm:mk e S4 with
    | exc a b=>simp only[hm,Res.bindS] at o; exact o.elim
    | stuck=>simp only[hm,Res.bindS] at o; exact o.elim
    | ok kd S5=>
     simp only[hm,Res.bindS] at o
     intro μ5 H5 y st5 rs5 ry
     have hp5:=st5.hk _ _ np4 hp4
     have np5:p∈μ5.h:=by rw[st5.hid]; exact np4
     have ra5:=RepAll.step st5 _ _ ra4
     refine ⟨e,S5,μ5,⟨(re3.step st4).step st5,rs5⟩,?_⟩
     cases hv:mv e S5 with
     | exc a b=>simp only[hv,Res.bindS] at o; exact o.elim
     | stuck=>simp only[hv,Res.bindS] at o; exact o.elim
     | ok v S6=>
      simp only[hv,Res.bindS] at o
      intro μ6 H6 z st6 rs6 rz
      have hp6:=st6.hk _ _ np5 hp5
      have np6:p∈μ6.h:=by rw[st6.hid]; exact np5
      have ra6:=RepAll.step st6 _ _ ra5
      by_cases hl:cp false kd=true∧acc.length<1000000
      ·simp only[hl,and_self,if_true] at o
       obtain ⟨kk,rfl⟩:=nY hl.1
       obtain ⟨ks',vs',h1,h2,h3⟩:=j9 nX kk rz hk ra6
       have sw:StP p μ6 H6 μ6 (upd H6 p (.dK (putK (ks.zip us) kk z))):=.write np6 (.of hp6)
       refine ⟨_,kk,gq ry,hp6,?_,?_⟩
       ·rw[j8 hk ra,sizeLine_eq]; omega
       ·exact hN μ6 _ S6 _ ((StP.of (((st3.trans st4).trans st5).trans st6)).trans sw) (rs6.write_hid np6) ⟨ks',vs',by rw[upd_same,h1],h2,RepAll.stp sw.toStp _ _ h3⟩ o
      ·simp only[hl,if_false] at o; exact o.elim
theorem dc_sem {own:List (Str × Nat)} {σ:L2.St} {H:Hp} {Q:VK} {W:WX} (h:tE X W (kj mi g tc mk mv (own.map (·.2))) σ H Q) :
  tDc (tI X W mi) (tGc X (own.map (·.2)) g) (tT X W0 tc) (tE X W0 mk) (tE X W0 mv) (own.map (·.2)) σ H Q:=by
 obtain ⟨env,S,μ,rl,o⟩:=h
 generalize own.map (·.2)=vs at *
 refine ⟨env,S,μ,rl,(Out.bind o).mono fun J H1 ⟨μ1,S1,it,st,rs,rd,o1⟩ p hp=>?_⟩
 have rw1:RelE X.K X.mg μ1 H1 (aa env vs) (L2.wipe σ vs):=(rl.env.step st).wipe vs
 generalize aa env vs=w at *
 have sh:Stp μ1 H1 (μ1.hide p) (upd H1 p (.dK [])):=.new_hid hp
 have fin:∀(μ2:Mu) (H2:Hp) (S2:Sto) (acc:List (D × D)),StP p (μ1.hide p) (upd H1 p (.dK [])) μ2 H2→RelS X.K X.mg μ2 H2 S2→DOk X.K X.mg μ2 H2 p acc→Out X.K X.mg W σ μ1 H1 (fun μ H a b=>Rep X.K X.mg μ H a b) Q (Res.bind (.ok acc S2) kD)→Q (.ref p) H2:=by
  intro μ2 H2 S2 acc sp rs2 ⟨ks,us,hp2,hk2,ra⟩ o
  have hpm:p∈μ2.h:=by rw[sp.hid]; exact List.mem_cons_self
  have sub:∀a∈μ1.h,a∈μ2.h:=fun a ha=>by rw[sp.hid]; exact List.mem_cons_of_mem _ ha
  have su:Stp μ2 H2 ⟨μ2.l++[p],μ1.h⟩ H2:=.reveal hpm sub
  have rr:=rs2.reveal (o:=.dct false acc) hpm sub (rs.notinH hp) ⟨us,ks,⟨hp2,hk2⟩,ra⟩
  refine o ⟨μ2.l++[p],μ1.h⟩ H2 (.ref p) ⟨(sh.trans sp.toStp).trans su,rfl,fun a u ha e nt=>sp.hk a u (ne_of_none e hp) (List.mem_cons_of_mem _ ha) (by rw[upd_ne (ne_of_none e hp)]; exact e) nt⟩ rr ?_
  unfold Rep
  exact ⟨p,rfl,by rw[rs2.len]; simp⟩
 have npm:∀ {μ2:Mu} {H2:Hp},StP p (μ1.hide p) (upd H1 p (.dK [])) μ2 H2→p∈μ2.h:=fun sp=>by rw[sp.hid]; exact List.mem_cons_self
 have st0:StP p (μ1.hide p) (upd H1 p (.dK [])) (μ1.hide p) (upd H1 p (.dK [])):=.of .refl
 cases it with
 | items ds=>
  have rd:eO X.K X.mg μ1 H1 ds J:=rd
  refine ⟨fun i n H=>n+i=ds.length∧∃μ S acc,StP p (μ1.hide p) (upd H1 p (.dK [])) μ H∧RelS X.K X.mg μ H S∧DOk X.K X.mg μ H p acc∧Out X.K X.mg W σ μ1 H1 (fun μ H a b=>Rep X.K X.mg μ H a b) Q ((eG g tc mk mv w (ds.drop i) acc S).bind kD),
   ⟨ds.length,rfl,_,S1,[],st0,rs.hide hp,⟨[],[],upd_same,rfl,.nil⟩,o1⟩,?_⟩
  rintro i n H ⟨hn,μ,S,acc,sp,rs,hpp,o⟩
  have sb:Stp μ1 H1 μ H:=sh.trans sp.toStp
  by_cases hi:i<ds.length
  ·have ed:ds.drop i=ds[i]::ds.drop (i+1):=List.drop_eq_getElem_cons hi
   rw[ed] at o
   unfold eG at o
   have o:Out X.K X.mg W σ μ1 H1 (fun μ H a b=>Rep X.K X.mg μ H a b) Q ((jO g tc mk mv w ds[i] acc S).bindS fun acc S=>(eG g tc mk mv w (ds.drop (i+1)) acc S).bind kD):=by
    cases hq:jO g tc mk mv w ds[i] acc S with
    | ok a b=>rw[hq] at o; exact o
    | exc a b=>rw[hq] at o; exact o
    | stuck=>rw[hq] at o; exact o
   refine .inr ⟨rd.goes i μ H hi sb,fun H=>∃μ S acc,StP p (μ1.hide p) (upd H1 p (.dK [])) μ H∧RelS X.K X.mg μ H S∧DOk X.K X.mg μ H p acc∧Out X.K X.mg W σ μ1 H1 (fun μ H a b=>Rep X.K X.mg μ H a b) Q ((eG g tc mk mv w (ds.drop (i+1)) acc S).bind kD),fun H' w=>⟨n - 1,zqO,zqO,w⟩,fun x H' y=>?_⟩
   obtain ⟨sm,rx⟩:=rd.yields i _ μ H S x H' (List.getElem?_eq_getElem hi) sb rs y
   have sx:Step μ H μ H':=.of_sm sm
   have spx:=sp.trans (StP.of sx)
   obtain ⟨ks,us,g1,g2,g3⟩:=hpp
   refine vI ((rw1.stp sh).stp spx.toStp) (rs.sm sm) ⟨ks,us,sm _ _ g1,g2,RepAll.step sx _ _ g3⟩ (npm spx) rx o fun μ3 H3 S3 acc' s3 rs3 hp3 o3=>⟨μ3,S3,acc',spx.trans s3,rs3,hp3,o3⟩
  ·have e:i=ds.length:=zqO
   subst e
   rw[List.drop_length] at o
   exact .inl ⟨rd.stops μ H sb,fin μ H S acc sp rs hpp o⟩
 | live l=>exact o1.elim
 | liveE l=>exact o1.elim
theorem tV {scope:Scope} {own:List (Str × Nat)} {ifs:List Expr} (hc:X.calm=true) (hN:X.N.Nodup) (hi:PI X tg iter (tI X W mi)) (ok:BlkOk X.N X.env.scope scope own)
  (hg:∀(s:Shared) (H:Hp) (C:Addr) (cl:List (Str × Addr)) (fp:List Addr),PG (X.blk s H scope (compEnvC scope cl C X.env) fp) tg (tGc (X.blk s H scope (compEnvC scope cl C X.env) fp) (own.map (·.2)) g))
  (ht:∀(s:Shared) (H:Hp) (C:Addr) (cl:List (Str × Addr)) (fp:List Addr),PTs' (X.blk s H scope (compEnvC scope cl C X.env) fp) ifs tc)
  (hk:∀(s:Shared) (H:Hp) (C:Addr) (cl:List (Str × Addr)) (fp:List Addr),PE (X.blk s H scope (compEnvC scope cl C X.env) fp) kx (tE (X.blk s H scope (compEnvC scope cl C X.env) fp) W0 mk))
  (he:∀(s:Shared) (H:Hp) (C:Addr) (cl:List (Str × Addr)) (fp:List Addr),PE (X.blk s H scope (compEnvC scope cl C X.env) fp) vx (tE (X.blk s H scope (compEnvC scope cl C X.env) fp) W0 mv)) (hs:∀x,foldedSetIterable iter X.env x=pure x:=by intro _; rfl) :
  PE X (.DictComp kx vx [⟨tg,iter,ifs,0⟩] scope pos) (tE X W (kj mi g tc mk mv (own.map (·.2)))):=
 b4 (pe_dc (g:=tGc X (own.map Prod.snd) g) (tt:=tT X W0 tc) (tk:=tE X W0 mk) (tv:=tE X W0 mv) hc hN hi ok hg ht hk he hs) fun σ H Q h=>dc_sem h
end
def gZ (C:Str):MS:=fun env S=>.exc ⟨C,[]⟩ env S
/-- an own exception class without fields -/
structure pb (K:PySem.W.Frag) (C:Addr):Prop where
 ex:PySem.W.excIn K C He.veBase "ValueError.__new__"=true
 kp:PySem.W.keepIn K (.ref C)=true
 s1:PySem.W.subIn K (.ref C) (.type "BaseException")=some true
 s2:PySem.W.typeIn K (.ref C)=some (.type "type")
section
variable {X:Cx} {W:WX} {pos:Pos}
theorem gb {x m:Str} {j:Nat} {p p2 p3:Pos} {C:Addr} (hc:X.calm=true) (tk:Takes X W) (F:pb X.K C) (gC:X.mg x=some (.ref C)) (hg:Gl X x) (hdb:(x == ("__debug__":Str))=false:=by decide) :
  PS X (.Raise (some (.Call (.Name x p) [.Constant (.str m) j p2] [] p3)) none pos) (tS X W (gZ x)):=
 gU (L2N.ps_raise hc tk (L2N.pmk_own PySem.F.excBase_ValueError F.ex gC F.kp (raises_own F.s1 F.s2) hg hdb)) fun D σ H ⟨env,S,μ,rl,o⟩=>
  o μ H σ (.ref C) none .refl rl.env rl.sto ⟨C,gC,rfl,.inl ⟨rfl,rfl⟩⟩
end
def flV:D→Option V
 | .none=>some .non
 | .bool b=>some (.bl b)
 | .int i=>some (.int i)
 | .str x=>some (.str x)
 | _=>none
def flVs:List D→Option (List V)
 | []=>some []
 | d::ds=>match flV d,flVs ds with
  | some v,some vs=>some (v::vs)
  | _,_=>none
section
variable {K:PySem.W.Frag} {mg:Str→Option Value} {μ:Mu} {H:Hp}
theorem pc {d:D} {v u:V} (r:Rep K mg μ H d v) (e:flV d=some u):v=u:=by
 cases d with
 | none=>cases e; unfold Rep at r; exact r
 | bool b=>cases e; unfold Rep at r; exact r
 | int b=>cases e; unfold Rep at r; exact r
 | str b=>cases e; unfold Rep at r; exact r
 | _=>cases e
theorem me:∀ {ds:List D} {vs us:List V},RepAll K mg μ H ds vs→flVs ds=some us→vs=us
 | [],vs,us,r,e=>by unfold RepAll at r; cases e; exact r
 | d::ds,vs,us,r,e=>by
  unfold RepAll at r
  obtain ⟨v,q,rfl,r1,r2⟩:=r
  unfold flVs at e
  split at e
  ·rename_i a b ea eb
   cases e
   rw[pc r1 ea,me r2 eb]
  ·cases e
end
def rCount (K:PySem.W.Frag):V→List V→Hp→VK→Prop:=fun x xs H Q=>∃(a:Addr) (ys:List V) (y:V),x=V.ref a∧xs=[y]∧SqL K H a ys∧flatV y=true∧ys.all flatV=true∧Q (.int (ys.countP fun z=>eqV z y:Nat)) H
section
variable {X:Cx}
theorem ly {x:V}:∀ {xs:List V} {us:List Value},Vals xs us→xs.all flatV=true→us.countP (eqU x)=xs.countP fun y=>eqV y x
 | _,_,.nil,_=>rfl
 | y::xs,u::us,.cons r t,f=>by
  rw[List.all_cons,Bool.and_eq_true] at f
  rw[List.countP_cons,List.countP_cons,ly t f.2,eqU_of r f.1]
theorem rf:MtR X "list.count" (rCount X.K):=by
 intro pins s σ H x xs v us Q I rx rxs h
 obtain ⟨a,ys,y,rfl,rfl,hs,fy,fys,q⟩:=h
 cases rx
 cases rxs with
 | cons ry rt=>
  rename_i uy ut
  cases rt
  obtain ⟨its,rv,⟨⟨cls,dd,data,sl⟩,n,ho,hc,hdn,hd⟩,hlen⟩:=I.list hs
  simp only at hc hd
  subst hc hd
  refine call_meets PySem.F.slot_list_count ⟨_,ho,rfl⟩ PySem.F.entry_list_count (PySem.F.args_list_count_2 _ _)
   (SeqAt.list_countAt a its.toArray n dd sl uy (eqU y)) ⟨ho,fun u' hu'=>mem_eqAt ry fy rv fys u' (by simpa using hu'),?_⟩
  refine ⟨.int (ys.countP (fun z=>eqV z y):Nat),H,I.tok _,⟨s.toks,?_⟩,q⟩
  show Value.int ((its.toArray.toList.countP (eqU y):Nat):Int) s.toks=_
  rw[show its.toArray.toList=its from rfl,ly rv fys]
def pd:BM:=fun S d ds=>match view0 S d,ds with
 | .lst xs,[a]=>match flVs xs,flV a with
  | some vs,some v=>if vs.all flatV&&flatV v then some (.int (vs.countP fun z=>eqV z v:Nat),S) else none
  | _,_=>none
 | _,_=>none
theorem vJ:MtR X "list.count" (rM X.K X.mg pd):=mY rf fun x xs H Q ⟨μ,S,d,ds,r,S',rs,rd,rds,e,q⟩=>by
 unfold pd at e
 split at e
 ·rename_i zs a ev
  have rw0:=rs.view0 rd
  rw[ev] at rw0
  obtain ⟨ad,vs,rfl,h1,h2⟩:=rw0
  obtain ⟨v,rfl,rv⟩:=cP rds
  split at e
  ·rename_i us u e1 e2
   split at e
   ·rename_i hf
    cases e
    rw[Bool.and_eq_true] at hf
    obtain rfl:=me h2 e1
    obtain rfl:=pc rv e2
    exact ⟨ad,_,_,rfl,rfl,.of h1,hf.2,hf.1,q μ H _ .refl rs (bK _)⟩
   ·cases e
  ·cases e
 ·cases e
def pf:BM:=fun S d ds=>match view0 S d,ds with
 | .lst xs,[a]=>match flVs xs,flV a with
  | some vs,some v=>if vs.all flatV&&flatV v then (vs.findIdx? fun z=>eqV z v).map fun j=>(.int (j:Nat),S) else none
  | _,_=>none
 | _,_=>none
theorem vK:MtR X "list.index" (rM X.K X.mg pf):=mY mt_index fun x xs H Q ⟨μ,S,d,ds,r,S',rs,rd,rds,e,q⟩=>by
 unfold pf at e
 split at e
 ·rename_i zs a ev
  have rw0:=rs.view0 rd
  rw[ev] at rw0
  obtain ⟨ad,vs,rfl,h1,h2⟩:=rw0
  obtain ⟨v,rfl,rv⟩:=cP rds
  split at e
  ·rename_i us u e1 e2
   split at e
   ·rename_i hf
    obtain ⟨j,hj,e3⟩:=Option.map_eq_some_iff.mp e
    cases e3
    rw[Bool.and_eq_true] at hf
    obtain rfl:=me h2 e1
    obtain rfl:=pc rv e2
    obtain ⟨hjl,g1,g2⟩:=List.findIdx?_eq_some_iff_getElem.mp hj
    exact ⟨ad,_,_,j,_,rfl,rfl,.of h1,hf.2,hf.1,List.getElem?_eq_getElem hjl,g1,fun m z' hm hz=>by
     have hml:m<vs.length:=(List.getElem?_eq_some_iff.mp hz).1
     have:=g2 m hm
     rw[List.getElem?_eq_getElem hml] at hz
     cases hz
     simpa using this,q μ H _ .refl rs (bK _)⟩
   ·cases e
  ·cases e
 ·cases e
def ph:BM:=fun S d ds=>match d,ds with
 | .str a,[.str b]=>if (b.length == 0)=false∧a.length≤100000 then some (.lst ((Txt.split a b).map .str),S) else none
 | _,_=>none
theorem jm {K:PySem.W.Frag} {mg:Str→Option Value} {μ:Mu} {H:Hp}:∀ys:List Str,RepAll K mg μ H (ys.map .str) (ys.map V.str)
 | []=>.nil
 | y::ys=>.cons (fM y) (jm ys)
theorem vL:MtR X "str.split" (rM X.K X.mg ph):=mY mt_split fun x xs H Q ⟨μ,S,d,ds,r,S',rs,rd,rds,e,q⟩=>by
 unfold ph at e
 split at e
 ·rename_i a b
  split at e
  ·rename_i hz
   cases e
   unfold Rep at rd
   subst rd
   obtain ⟨v,rfl,rv⟩:=cP rds
   unfold Rep at rv
   subst rv
   exact ⟨a,b,rfl,rfl,hz.1,by rw[sizeLine_eq]; omega,fun p hp=>q μ _ _ (.of_sm (.upd hp)) (rs.sm (.upd hp)) (bz rs hp (jm _))⟩
  ·cases e
 ·cases e
end
section
open PySem.W PySem.Calls
variable {prog:Program} {w:World} {A:Around} {E:Value→Shared→Prop} {s:Shared} {K:Frag} {x D:Addr} {ox:Obj} {od:Option Obj}
theorem lV {C:Addr} {name:Str} {a g:Value} (hc:(clsIn K C).isSome=true) (ha:findIn K (.ref C) name=some (some a)) (hg:specialIn K a "__get__"=some (some g)) (ht:takesIn K a=some true):findObj K C od name=some (.bind g a):=by
 obtain ⟨cd,hc⟩:=Option.isSome_iff_exists.mp hc
 unfold findObj
 rw[hc,Option.bind_some,ha,Option.bind_some]
 simp[hg,ht]
theorem rg {Q:Option Value→Shared→Prop} (T:ExcC K D) (X:K.In s.heap) (I:InstAt s.heap x ox D od) (h:Q (some (.ref D)) { s with toks:=s.toks+1 }):wpAny (model prog w) A (getAttr? (.ref x) "__class__") Q E s:=by
 have hf:findObj K D od "__class__"=some (.bind (.builtin "getset_descriptor.__get__") (.builtin "object.__class__")):=lV (by obtain ⟨cd,hc,_⟩:=any_some T.hd; rw[hc]; rfl) T.ha T.hn T.ht
 obtain ⟨hp,g,d,t,os⟩:=s
 have L0:=I.type (M:=model prog w)
 have L1:=looks_findIn (M:=model prog w) X T.hg
 have L2:=looks_findIn (M:=model prog w) X T.hk
 have L3:=looks_find (M:=model prog w) X I hf
 have sub:Looks (model prog w) hp (isInstance (.ref x) (.type "BaseException")) true:=L0.andThen (looks_subIn X T.hs)
 have e0:(Value.builtin "BaseException.__getattribute__" == Value.builtin "object.__getattribute__")=false:=zqD
 have e1:(onTheHeap (Value.ref D)&&Value.builtin "BaseException.__getattribute__" == Value.builtin "object.__getattribute__")=false:=by rw[e0]; rfl
 unfold getAttr? getAttrBy? getAttrBy
 refine wpAny_bind (wpAny_mkText (wpAny_bind (wpAny_attempt (wpAny_holding (wpAny_bind (L0.at (wpAny_bind (L1.at ?_))))))))
 show wpAny _ _ (if (onTheHeap (Value.ref D)&&Value.builtin "BaseException.__getattribute__" == Value.builtin "object.__getattribute__")=true then _ else _) _ _ _
 rw[e1,if_neg Bool.false_ne_true]
 unfold getAttrByItsOwn hookBefore
 refine wpAny_bind ?_
 rw[if_pos (show onTheHeap (Value.ref D)=true from rfl)]
 refine L2.at ?_
 refine wpAny_bind (wpAny_attempt (wpAny_holding ?_))
 unfold callGetattribute
 rw[show (false&&onTheHeap (Value.builtin "BaseException.__getattribute__"))=false from rfl,if_neg Bool.false_ne_true]
 unfold boundAndCalled
 rw[PySem.F.excAttr_ValueError.ga.bind (.ref x)]
 refine wpAny_bind (wpAny_pure ?_)
 show wpAny _ _ (call (.builtin "BaseException.__getattribute__") [.ref x,.str "__class__" t]) _ _ _
 refine wpAny_call (codeAny_call_builtin PySem.F.excAttr_ValueError.ga.plain PySem.F.entry_bexc_ga ?_)
 refine @check_slot (model prog w) _ _ ⟨hp,g,d,t+1,os⟩ "BaseException.__getattribute__" "BaseException" "__getattribute__" (.ref x) [.str "__class__" t] [] _ zqD zqD sub (PySem.F.args_bexc_ga (.ref x) (.str "__class__" t)) ?_
 unfold Builtin.«object.__getattribute__»
 refine wpAny_bind (wpAny_of_eq (a:=((Value.ref x:Value),[Value.str "__class__" t])) (by first|rfl|(simp only[slotArgs]; rfl)) ?_)
 refine wpAny_bind (wpAny_pure (wpAny_bind (L0.at (wpAny_bind (L3.at ?_)))))
 show wpAny _ _ (holding [Value.builtin "object.__class__"] (call (.builtin "getset_descriptor.__get__") [.builtin "object.__class__",.ref x,.ref D]) >>= ret) _ _ _
 refine wpAny_bind (wpAny_holding (wpAny_call (class_get (s:=⟨hp,g,d,t+1,os⟩) (ox:=ox) (od:=od) X I T.hm ?_)))
 refine wpAny_pure ?_
 show wpAny _ _ (handedOut (.ref D)) _ _ _
 rw[handedOut_of (v:=.ref D) rfl]
 first
  | exact wpAny_pure (wpAny_pure h)
  | exact wpAny_pure h
  | exact wpAny_pure (wpAny_bind (wpAny_pure (wpAny_pure h)))
theorem kitE (T:ExcC K D):KitX K (.ref x) (.ref D) (fun h=>InstAt h x ox D od) where
 ty:=fun _ _ _ I=>I.type
 it:=fun _ _ X _=>by
  obtain ⟨cdD,hcD,_⟩:=any_some T.hd
  unfold clsIn at hcD
  split at hcD
  ·rename_i c' d' cd' sl' ho
   intro A' Q' E' s' k q
   unfold isType loadHead
   exact wpAny_bind (wpAny_loadPart (k _ _ (X _ _ ho)) (wpAny_pure q))
  ·cases hcD
 ne:=fun h tp dd its n sl X htp=>by
  obtain ⟨cdD,hcD,_⟩:=any_some T.hd
  refine Bool.eq_false_iff.mpr fun q=>?_
  have e:D=tp:=Value.ref.inj (beq_iff_eq.mp q)
  subst e
  unfold clsIn at hcD
  split at hcD
  ·rename_i c' d' cd' sl' ho
   have z:=(X _ _ ho).symm.trans htp
   cases z
  ·cases hcD
 ca:=fun X I k=>rg T X I k
end
/-- the dict of an exception stands -/
def XdAt (H:Hp):Option Addr→Prop
 | none=>True
 | some d=>∃fs,H d=some (.xd fs)
def rIsD (K:PySem.W.Frag) (D a:Addr) (dd:Option Addr):List V→Hp→VK→Prop:=fun xs H Q=>∃(c:V) (cv:Value) (b:Bool),xs=[.ref a,c]∧(∀u,L2.RelV c u→u=cv)∧PySem.W.kitOne K (.ref D) cv=some b∧XdAt H dd∧Q (.bl b) H
theorem xd_at {P:Program} {w:World} {H:Hp} {h:Heap} (hok:HOk P w H h) {d:Addr} {fs:List (Str × V)} (e:H d=some (.xd fs)):∃mA,h.Ns1 d mA∧∀f,RelO (fs.lookup f) (mA f):=by
 have x:ObjOk P w H h d (.xd fs):=hok d _ e
 exact x
theorem tW {X:Cx} {a D:Addr} {dd:Option Addr} {oe:Obj} {pn:List (Addr × Obj)} {pins:List (Addr × Obj)} {σ:L2.St} {H:Hp} {s:Shared} (I:L2.Inv (X.suite a ((a,oe)::pn)) pins σ H s) (hz:Zc (.ref D) dd oe) (hf:∃vs,oe.data=.fields vs) (hd:XdAt H dd) :
  ∃od,PySem.W.InstAt s.heap a oe D od:=by
 obtain ⟨hget,_⟩:=I.pin (a,oe) (List.mem_append_left _ List.mem_cons_self)
 obtain ⟨vs,hv⟩:=hf
 cases dd with
 | none=>
  refine ⟨none,?_⟩
  obtain ⟨oc,od,oda,osl⟩:=oe
  obtain ⟨h1,h2⟩:=hz
  dsimp only at h1 h2 hv
  subst h1 h2 hv
  exact ⟨hget,rfl,rfl,trivial⟩
 | some d=>
  obtain ⟨fs,e⟩:=hd
  obtain ⟨mA,hns,_⟩:=xd_at I.hok e
  obtain ⟨o,es,ep,ho,_⟩:=hns
  refine ⟨some o,hget,hz.1,?_,?_⟩
  ·unfold PySem.W.notCls
   rw[hv]<;>rfl
  ·rw[hz.2]
   exact ho
theorem tX {X:Cx} {a D:Addr} {dd:Option Addr} {oe:Obj} {pn:List (Addr × Obj)} (C:ExcC X.K D) (hz:Zc (.ref D) dd oe) (hf:∃vs,oe.data=.fields vs):CallR (X.suite a ((a,oe)::pn)) (.builtin "isinstance") (rIsD X.K D a dd):=by
 intro pins s σ H xs us Q I r h
 obtain ⟨c,cv,b,rfl,hcv,e,hd,q⟩:=h
 cases r with
 | cons rx rr=>
  cases rr with
  | cons rt rr=>
   cases rr
   cases rx
   have ec:=hcv _ rt
   subst ec
   obtain ⟨od,J⟩:=tW I hz hf hd
   exact PySem.W.kia_one (kitE C) I.kIn J e (fun z=>nomatch z) fun tk=>⟨.bl b,H,I.kept (t':=tk) fun _ _ z=>z,rfl,q⟩
/-- kt: what the class table says; a: where the exception stands; dd: its dict -/
def cr (a:Addr) (dd:Option Addr) (kt:D→Option Bool):BF:=fun _ ds=>match ds,dd with
 | [.adr b,c],none=>if b=a then (kt c).map .bool else none
 | [.exn b d' _ _,c],some d=>if b=a∧d'=d then (kt c).map .bool else none
 | _,_=>none
theorem cR {X:Cx} {a C:Addr} {dd:Option Addr} {oe:Obj} {pn:List (Addr × Obj)} {kt:D→Option Bool} (hC:ExcC X.K C) (hz:Zc (.ref C) dd oe) (hf:∃vs,oe.data=.fields vs)
  (hk:∀c b,kt c=some b→∃cv,PySem.W.kitOne X.K (.ref C) cv=some b∧∀(μ:Mu) (H:Hp) (v:V),Rep X.K X.mg μ H c v→∀u,L2.RelV v u→u=cv):CallR (X.suite a ((a,oe)::pn)) (.builtin "isinstance") (rB X.K X.mg (cr a dd kt)):=
 ij (tX hC hz hf) fun xs H Q ⟨μ,S,ds,d,rs,ra,e,q⟩=>by
  unfold cr at e
  split at e
  ·split at e
   ·rename_i hb
    subst hb
    obtain ⟨k,hk1,rfl⟩:=Option.map_eq_some_iff.mp e
    obtain ⟨v,w,rfl,r1,r2⟩:=gr ra
    unfold Rep at r1
    subst r1
    obtain ⟨cv,h1,h2⟩:=hk _ k hk1
    exact ⟨w,cv,k,rfl,h2 μ H w r2,h1,trivial,q H _ .rfl (bj _)⟩
   ·cases e
  ·split at e
   ·rename_i hb
    obtain ⟨rfl,rfl⟩:=hb
    obtain ⟨k,hk1,rfl⟩:=Option.map_eq_some_iff.mp e
    obtain ⟨v,w,rfl,r1,r2⟩:=gr ra
    unfold Rep at r1
    obtain ⟨vs,rfl,h3,_,_⟩:=r1
    obtain ⟨cv,h1,h2⟩:=hk _ k hk1
    exact ⟨w,cv,k,rfl,h2 μ H w r2,h1,⟨_,h3⟩,q H _ .rfl (bj _)⟩
   ·cases e
  ·cases e
def eXf (a:Addr) (dd:Option Addr) (ok:Bool) (f:Str) (ma:ME):ME:=fun env S=>(ma env S).bind fun d S=>match d,dd with
 | .exn b d' ns ds,some d=>if b=a∧d'=d∧ok=true then (match (ns.zip ds).lookup f with
  | some v=>.ok v S
  | none=>.stuck) else .stuck
 | _,_=>.stuck
theorem jn {K:PySem.W.Frag} {mg:Str→Option Value} {μ:Mu} {H:Hp} {g:Str}:∀ {ns:List Str} {ds:List D} {vs:List V} {d:D},RepAll K mg μ H ds vs→(ns.zip ds).lookup g=some d→∃v,(ns.zip vs).lookup g=some v∧Rep K mg μ H d v
 | [],_,_,_,_,h=>by simp at h
 | _::_,[],_,_,_,h=>by simp at h
 | n::ns,d0::ds,_,_,r,h=>by
  unfold RepAll at r
  obtain ⟨v,t,rfl,h1,h2⟩:=r
  rw[List.zip_cons_cons,List.lookup_cons] at h ⊢
  cases e:(g == n) with
  | true=>
   rw[e] at h
   cases h
   exact ⟨v,rfl,h1⟩
  | false=>
   rw[e] at h
   exact jn h2 h
theorem qt {X:Cx} {W:WX} {a C:Addr} {dd:Option Addr} {oe:Obj} {pn:List (Addr × Obj)} {e:Expr} {ma:ME} {pos:Pos} {n:Str} {ok:Bool} (T:ok=true→XfC X.K C∧PySem.W.findIn X.K (.ref C) n=some none)
  (hz:Zc (.ref C) dd oe) (hf:∃vs,oe.data=.fields vs) (he:PE (X.suite a ((a,oe)::pn)) e (tE (X.suite a ((a,oe)::pn)) W ma)) (hb:attributeBase e n X.env (eval e X.env)=eval e X.env:=by rfl) :
  PE (X.suite a ((a,oe)::pn)) (.Attribute e n pos) (tE (X.suite a ((a,oe)::pn)) W (eXf a dd ok n ma)):=by
 cases ok with
 | false=>
  refine ⟨fun pins s σ H Q I h=>?_⟩
  refine attr_of hb (thn (he.run pins s σ H (fun _ _=>False) I ?_) fun u s1 hh=>?_)
  ·obtain ⟨env,S,μ,rl,o⟩:=h
   refine ⟨env,S,μ,rl,(Out.bind (R:=fun μ H a b=>Rep X.K X.mg μ H a b) o).mono fun v H1 ⟨μ1,S1,d,st,rs,r,o1⟩=>?_⟩
   split at o1
   ·rw[if_neg (fun z=>by cases z.2.2)] at o1
    exact o1.elim
   ·exact o1.elim
  ·obtain ⟨_,_,_,_,q⟩:=hh
   exact q.elim
 | true=>
  obtain ⟨T1,hno⟩:=T rfl
  refine b4 (pe_xf (cls:=.ref C) (d:=dd) T1 hno hz hf he hb) fun σ H Q h=>?_
  obtain ⟨env,S,μ,rl,o⟩:=h
  refine ⟨env,S,μ,rl,(Out.bind (R:=fun μ H a b=>Rep X.K X.mg μ H a b) o).mono fun v H1 ⟨μ1,S1,d,st,rs,r,o1⟩=>?_⟩
  split at o1
  ·rename_i b d' ns ds d0
   split at o1
   ·rename_i hb
    obtain ⟨rfl,rfl,_⟩:=hb
    unfold Rep at r
    obtain ⟨vs,rfl,h3,n3,h4⟩:=r
    split at o1
    ·rename_i dv hl
     obtain ⟨v,hv,rv⟩:=jn h4 hl
     exact ⟨rfl,rfl,_,_,v,rfl,h3,hv,o1 μ1 H1 v .refl rs rv⟩
    ·exact o1.elim
   ·exact o1.elim
  ·exact o1.elim
end DL
namespace DL
open PySem PySem.Spec PyProof.Rows L2 LamX
/-- what is told of an error,by its class and its fields -/
abbrev Hdr:=Str→List (Str × D)→Option D
/-- what the def makes of what the lambda does -/
def fY (hd:Hdr):Res D→Res D
 | .ok d S=>.ok d S
 | .exc e S=>match hd e.cls e.fs with
  | some d=>.ok d S
  | none=>.stuck
 | .stuck=>.stuck
def oA (hd:Hdr) (m:ME):ME:=fun env S=>fY hd (m env S)
/-- an error's dict and its fields -/
def DdR (K:PySem.W.Frag) (mg:Str→Option Value) (μ:Mu) (H:Hp) (fs:List (Str × D)) (dd:Option Addr):Prop:=
 (fs=[]∧dd=none)∨fs≠[]∧∃d vs,dd=some d∧H d=some (.xd ((fs.map (·.1)).zip vs))∧RepAll K mg μ H (fs.map (·.2)) vs
/-- .. as a value -/
def exD (ea:Addr) (fs:List (Str × D)):Option Addr→D
 | none=>.adr ea
 | some d=>.exn ea d (fs.map (·.1)) (fs.map (·.2))
/-- the dict is there where fields are -/
def DdK (fs:List (Str × D)) (dd:Option Addr):Prop:=(fs=[]∧dd=none)∨fs≠[]∧∃d,dd=some d
theorem DdR.k {K:PySem.W.Frag} {mg:Str→Option Value} {μ:Mu} {H:Hp} {fs:List (Str × D)} {dd:Option Addr} (h:DdR K mg μ H fs dd):DdK fs dd:=by
 rcases h with h|⟨h,d,_,e,_⟩
 ·exact .inl h
 ·exact .inr ⟨h,d,e⟩
theorem tY {K:PySem.W.Frag} {mg:Str→Option Value} {μ:Mu} {H:Hp} {S:Sto} (rs:RelS K mg μ H S) {d:Addr} {fs:List (Str × V)} (e:H d=some (.xd fs)):d∉μ:=fun z=>by
 rcases z with z|z
 ·obtain ⟨l,hl⟩:=List.mem_iff_getElem?.mp z
  have hlt:l<S.length:=by
   rw[rs.len]
   exact (List.getElem?_eq_some_iff.mp hl).1
  obtain ⟨a,h1,h2⟩:=rs.at_ l S[l] (List.getElem?_eq_getElem hlt)
  rw[hl] at h1
  cases h1
  cases ho:S[l] with
  | lst xs=>
   rw[ho] at h2
   obtain ⟨vs,h3,_⟩:=h2
   rw[e] at h3
   cases h3
  | ins C fs=>
   rw[ho] at h2
   obtain ⟨_,_,_,_,h3,_⟩:=h2
   rw[e] at h3
   cases h3
  | dct t kvs=>
   rw[ho] at h2
   cases t with
   | false=>
    obtain ⟨_,_,⟨h3,_⟩,_⟩:=h2
    rw[e] at h3
    cases h3
   | true=>
    obtain ⟨_,_,⟨h3,_⟩,_⟩:=h2
    rw[e] at h3
    cases h3
  | fdc t kvs=>
   rw[ho] at h2
   cases t with
   | false=>
    obtain ⟨_,_,⟨⟨_,h3⟩,_⟩,_⟩:=h2
    rw[e] at h3
    cases h3
   | true=>
    obtain ⟨_,_,⟨⟨_,h3⟩,_⟩,_⟩:=h2
    rw[e] at h3
    cases h3
 ·obtain ⟨u,h1,h2⟩:=rs.hid d z
  rw[e] at h1
  cases h1
  rcases h2 with ⟨_,h2⟩|⟨_,h2⟩|⟨_,h2⟩<;>cases h2
theorem DdR.rep {K:PySem.W.Frag} {mg:Str→Option Value} {μ:Mu} {H:Hp} {S:Sto} (rs:RelS K mg μ H S) {fs:List (Str × D)} {dd:Option Addr} (h:DdR K mg μ H fs dd) (ea:Addr):Rep K mg μ H (exD ea fs dd) (.ref ea):=by
 rcases h with ⟨_,rfl⟩|⟨_,d,vs,rfl,h1,h2⟩
 ·unfold exD Rep
  rfl
 ·unfold exD Rep
  exact ⟨vs,rfl,h1,tY rs h1,h2⟩
def Ek (K:PySem.W.Frag) (mg:Str→Option Value) (hd:Hdr) (Q:VK):XK:=fun cls d H'=>∃μ S C D fs r,mg C=some (.ref D)∧cls=.ref D∧DdR K mg μ H' fs d∧hd C fs=some r∧RelS K mg μ H' S∧∀μ' H'' v,Step μ H' μ' H''→RelS K mg μ' H'' S→Rep K mg μ' H'' r v→Q v H''
def TTk (K:PySem.W.Frag) (mg:Str→Option Value) (hd:Hdr):(XK→Hp→VK→Prop)→Hp→VK→Prop:=fun tl H Q=>tl (Ek K mg hd Q) H Q
theorem lz {K:PySem.W.Frag} {mg:Str→Option Value} {μ:Mu} {H H1:Hp} {S:Sto} (rs:RelS K mg μ H S) (e:ExtN H H1) (t:Tabs (tbs K) H1):Step μ H μ H1∧RelS K mg μ H1 S:=by
 have st:Step μ H μ H1:=⟨⟨⟨⟨[],zqS⟩,fun _ h=>.inl h,fun a o h _ nt=>e a o h nt⟩,fun a _ _ h=>e a _ h fun _ z=>nomatch z⟩,rfl,fun a u _ h nt=>e a u h nt⟩
 refine ⟨st,rs.len,rs.nd,rs.dis,fun a ha=>?_,fun l o el=>?_,t⟩
 ·obtain ⟨u,h1,h2⟩:=rs.hid a ha
  exact ⟨u,e a u h1 h2.ntb,h2⟩
 ·obtain ⟨a,h1,h2⟩:=rs.at_ l o el
  refine ⟨a,h1,h2.step st.toStp fun u hu=>e a u hu fun ps z=>?_⟩
  subst z
  exact h2.nt hu
/-- the reading of a whole call -/
theorem t_kind {X:Cx} {W:WX} {hd:Hdr} {m:ME} {σ:L2.St} {H:Hp} {Q:VK} (h:tE X W (oA hd m) σ H Q) :
  tLam (tbs X.K) (TTk X.K X.mg hd) (fun E=>tE X (fun c d _ H=>E c d H) m) σ H Q:=by
 obtain ⟨env,S,μ,rl,o⟩:=h
 refine ⟨rl.sto.tab,fun H1 e t=>?_⟩
 obtain ⟨st,rs⟩:=lz rl.sto e t
 refine ⟨env,S,μ,⟨rl.env.step st,rs⟩,?_⟩
 have o:=Out.of_step st o
 unfold oA fY at o
 cases hm:m env S with
 | ok d S'=>rw[hm] at o; exact o
 | stuck=>rw[hm] at o; exact o.elim
 | exc x S'=>
  rw[hm] at o
  simp only at o
  split at o
  ·rename_i d e2
   intro μ' H' cls dd st' rs' rx
   obtain ⟨C,h1,h2,h3⟩:=rx
   exact ⟨μ',S',x.cls,C,x.fs,d,h1,h2,h3,e2,rs',fun μ2 H2 v s2 r2 rv=>o μ2 H2 v (st'.trans s2) r2 rv⟩
  ·exact o.elim
/-- what the suite is asked -/
def tsK (K:PySem.W.Frag) (mg:Str→Option Value) (hd:Hdr) (i:Nat) (a:Addr) (cls:Value) (d:Option Addr):TS:=fun D σ H=>(∃σ0:L2.St,σ=σ0.set i (some (.ref a)))∧Ek K mg hd D.rt cls d H
theorem pi {X:Cx} {Ng:List Str} {x a e:Str} {sg:Scope} {g CS:Addr} {cdg:Value} {b₀:Stmt} {suite:List Stmt} {q:Str} {hd:Hdr} {i:Nat} {ec:Str} {sm:Str→Addr→Option Addr→MS} {p1 p2 p3 p4 p7 p8:Pos}
  (hN:Ng.Nodup) (hi:Ng[i]?=some e) (hln:sg.names.lookup e=some .local) (hge:sg.names.lookup ec=some .globalImplicit) (hme:X.mg ec=some (.ref CS)) (hde:(ec == ("__debug__":Str))=false) (h0:∀f:Addr,(L2.start Ng [V.ref f])[0]?=some (some (V.ref f)))
  (hx:∀C fs r,hd C fs=some r→∀Da,X.mg C=some (.ref Da)→PySem.W.exmOne X.K (.ref Da) (.ref CS)=some true)
  (hs:∀(s:Shared) (H:Hp) (ea Da:Addr) (oe:Obj) (pn:List (Addr × Obj)) (C:Str) (fs:List (Str × D)) (dd:Option Addr) (r:D),X.mg C=some (.ref Da)→hd C fs=some r→DdK fs dd→Zc (.ref Da) dd oe→(∃vs,oe.data=.fields vs)→
   PSs ((cxOf C8.CX0 X.prog X.w X.K X.mg X.base Ng x sg g cdg X.A X.stack s H C8.E0).nox.suite ea ((ea,oe)::pn)) (b₀::suite) (tS ((cxOf C8.CX0 X.prog X.w X.K X.mg X.base Ng x sg g cdg X.A X.stack s H C8.E0).nox.suite ea ((ea,oe)::pn)) W0 (sm C ea dd)))
  (hsem:∀C fs (ea:Addr) (dd:Option Addr) (S:Sto) r,hd C fs=some r→DdK fs dd→sm C ea dd ((List.replicate Ng.length none).set i (some (exD ea fs dd))) S=.ret r S) :
  GivesTo X Ng x sg g cdg [.Try [.Return (some (.Call (.Name a p1) [] [] p2)) p3] [.ExceptHandler (some (.Name ec p4)) (some e) (b₀::suite) p7] [] [] p8] a q (TTk X.K X.mg hd):=by
 intro f c' s H Q tl act hc h
 have hgl:Gl (cxOf C8.CX0 X.prog X.w X.K X.mg X.base Ng x sg g cdg X.A X.stack s H C8.E0).nox ec:=hge
 refine ⟨_,pss_one (ps_try_as (X:=(cxOf C8.CX0 X.prog X.w X.K X.mg X.base Ng x sg g cdg X.A X.stack s H C8.E0).nox) (c:=.ref CS) (i:=i) (ts:=tsK X.K X.mg hd i)
   (tb:=fun W D σ H=>∃Ech:XK,(∀cls d σ' H',Ech cls d H'→W cls d σ' H')∧σ[0]?=some (some (.ref f))∧H c'=some (CodeO c' q)∧tl Ech H D.rt)
   rfl rfl hN hi hln ⟨hgl,hde,.inl hme⟩ LamX.takes0 (fun W pn xe tk _=>?_) (fun ea oe cls d pn hz hf=>?_)),?_⟩
 ·refine ⟨fun pins s' σ H' D I h'=>?_⟩
  obtain ⟨Ech,hW,h1,h2,h3⟩:=h'
  have hp:=act W pn xe Ech p1 p2 tk hW
  have hq:=pss_one (ps_ret (pos:=p3) hp)
  exact hq.run pins s' σ H' D I ⟨h1,h2,h3⟩
 ·refine ⟨fun pins s' σ H' D I h'=>?_⟩
  obtain ⟨⟨σ0,rfl⟩,μ,S,C,Da,fs,r,m1,rfl,hdd,m4,rs,hq⟩:=h'
  have hq0:=hs s H ea Da oe pn C fs d r m1 m4 hdd.k hz hf
  have hil:i<Ng.length:=(List.getElem?_eq_some_iff.mp hi).1
  have hsl:σ0.length=Ng.length:=by
   have:=I.len
   rw[List.length_set] at this
   exact this
  refine hq0.run pins s' _ H' D I ⟨(List.replicate Ng.length none).set i (some (exD ea fs d)),S,μ,⟨⟨by simp[hsl],fun j d1 ej=>?_⟩,rs⟩,?_⟩
  ·by_cases hj:j=i
   ·subst hj
    rw[List.getElem?_set_self (by simpa using hil)] at ej
    cases ej
    exact ⟨.ref ea,by rw[List.getElem?_set_self (by rw[hsl]; exact hil)],hdd.rep rs ea⟩
   ·rw[List.getElem?_set_ne (Ne.symm hj)] at ej
    rw[List.getElem?_replicate] at ej
    split at ej<;>cases ej
  ·rw[hsem C fs ea d S r m4 hdd.k]
   exact fun μ' H'' v st rs' rv=>hq μ' H'' v st rs' rv
 ·refine ⟨Ek X.K X.mg hd Q,fun cls d σ' H' he=>?_,h0 f,hc,h⟩
  obtain ⟨μ,S,C,Da,fs,r,m1,rfl,hdd,m4,rs,hq⟩:=he
  exact ⟨true,hx C fs r m4 Da m1,fun _ ea hea=>⟨⟨σ',rfl⟩,μ,S,C,Da,fs,r,m1,rfl,hdd,m4,rs,hq⟩,fun z=>by cases z⟩
/-- here lambdas may be made -/
structure LamHere (X:Cx) (p:Str × Option Str):Prop where
 tb:TabB X.base X.mg (He.cT X.K p).1 (He.cT X.K p).2
 code:X.env.code=.ref (He.cT X.K p).1
 mem:((He.cT X.K p).2,X.env.qual++"<lambda>")∈tbs X.K
 uniq:∀r∈tbs X.K,r.1=(He.cT X.K p).2→r.2=X.env.qual++"<lambda>"
theorem pj {X:Cx} {K:PySem.W.Frag} {p:Str × Option Str} {x qual:Str} {params:Arguments} {body:List Stmt} {scope:Scope} {fd:FuncData} (F:FunD K x qual params body scope [] [] (He.fAd K p) fd) (hK:X.K=K) (tb:TabB X.base X.mg (He.cT K p).1 (He.cT K p).2)
  (hc:X.env.code=fd.code) (hq:X.env.qual=qual++".<locals>.") {q:Str} (mem:((He.cT K p).2,q)∈tbs K) (uniq:∀r∈tbs K,r.1=(He.cT K p).2→r.2=q) (hqq:qual++".<locals>."++"<lambda>"=q:=by decide +kernel):LamHere X p:=by
 subst hK hqq
 obtain ⟨oc,od,dV,kV,doc,pm,an,cdv,ct,osl,rfl,lk,hcd,_⟩:=F.ex
 obtain ⟨c,rfl⟩:=He.codeIn_ref hcd
 have e:=He.codeOf_eq lk (c:=c) rfl
 refine ⟨tb,?_,by rw[hq]; exact mem,fun r hr h=>by rw[hq]; exact uniq r hr h⟩
 rw[hc]
 show Value.ref c=.ref (He.codeOf X.K p)
 rw[e]
/-- a def that tells the error of what it is handed -/
structure KindF (P:Program) (w:World) (K:PySem.W.Frag) (mg:Str→Option Value) (base:Heap) (k:Nat) (x:Str) (g:Addr) (hd:Hdr):Prop where
 ex:∃(pg:Arguments) (bg:List Stmt) (sg:Scope) (dV kV doc pm cdv ct oc:Value) (an od:Option Addr) (osl:Array (Option Value)) (Ng:List Str) (a:Str),
  K.lookup g=some ⟨oc,od,.func (PySem.W.fnOf x x pg bg sg dV kV doc pm an cdv ct),osl⟩∧PySem.W.codeIn K cdv x=true∧L2.Binds K (PySem.W.fnOf x x pg bg sg dV kV doc pm an cdv ct) [a] []∧FnScope Ng [a] sg∧Ng[0]?=some a∧Vis sg a∧
  (a == ("__debug__":Str))=false∧(a == ("__classdict__":Str))=false∧
  ∀X:Cx,X.prog=P→X.w=w→X.K=K→X.mg=mg→X.base=base→Room (k+2) X.A→∀q,GivesTo X Ng x sg g cdv bg a q (TTk K mg hd)
 kp:PySem.W.keepIn K (.ref g)=true
theorem ru1 {k:Nat} {A:Around} (r:Room k A):A.units+1<cLine:=by have:=r.un; omega
theorem gH {k:Nat} {A:Around} (r:Room k A):A.units+64<cLine:=by have:=r.un; omega
theorem iR {k:Nat} {A:Around} (r:Room k A):A.units+65<cLine:=by have:=r.un; omega
/-- a def,whatever its record -/
def FnE (P:Program) (w:World) (K:PySem.W.Frag) (mg:Str→Option Value) (base:Heap) (k:Nat) (f:Addr) (ps:List Str) (m:MF):Prop:=∃fd,FnM P w K mg base k f fd ps m
theorem bA {P:Program} {w:World} {K:PySem.W.Frag} {mg:Str→Option Value} {base:Heap} {x qual:Str} {st:Stmt} {f:Addr} {fd:FuncData} {N ps:List Str} {k n:Nat} {m:MS} (F:FunD K x qual (defArgs st) (defBody st) (defScope st) [] [] f fd) (S:FnScope N ps (defScope st)) (hn:N.length - ps.length=n)
  (hb:∀(kV doc pm:Value) (an:Option Addr) (cdv ct:Value) (us:List Value),us.length=ps.length→bindArgs (PySem.W.fnOf x qual (defArgs st) (defBody st) (defScope st) .none kV doc pm an cdv ct) ⟨us,[]⟩=pure (ps.zip us))
  (hbody:∀(cdv:Value) (A:Around) (outer:List Env) (s:Shared) (H:Hp) (E:XK),fd.code=cdv→PassesOwn (model P w) (cxOf (L2N.CX P w) P w K mg base N qual (defScope st) f cdv A outer s H E).A (cxOf (L2N.CX P w) P w K mg base N qual (defScope st) f cdv A outer s H E).env (cxOf (L2N.CX P w) P w K mg base N qual (defScope st) f cdv A outer s H E).xe→
   Room k (cxOf (L2N.CX P w) P w K mg base N qual (defScope st) f cdv A outer s H E).A→∀W,Takes (cxOf (L2N.CX P w) P w K mg base N qual (defScope st) f cdv A outer s H E) W→PSs (cxOf (L2N.CX P w) P w K mg base N qual (defScope st) f cdv A outer s H E) (defBody st) (tS (cxOf (L2N.CX P w) P w K mg base N qual (defScope st) f cdv A outer s H E) W m)):FnM P w K mg base (k+1) f fd ps (bF n m):=by
 have b:Binds K fd ps []:=F.bindsN hb
 obtain ⟨oc,od,dV,kV,doc,pm,an,cdv,ct,osl,rfl,lk,hcd,_⟩:=F.ex
 refine ⟨fn_of lk hcd S (fun vs H Q E h=>qm h) (fun A outer s H vs Q E hr h=>?_),F.kp,b⟩
 refine ⟨_,hbody cdv A outer s H E rfl (passes_of rfl) hr (fun cls d _ H=>E cls d H) (takes_of rfl rfl rfl rfl),?_⟩
 obtain ⟨ds,So,μ,rs,ra,o⟩:=h
 unfold chk at o
 split at o
 ·rename_i hl
  have e0:n=N.length - ds.length:=by rw[hl]; exact hn.symm
  refine ⟨ds.map some++List.replicate n none,So,μ,⟨by rw[e0]; exact kZ ra,rs⟩,?_⟩
  unfold bF at o
  cases hm:m (ds.map some++List.replicate n none) So with
  | next e S1=>rw[hm] at o; exact fun μ' H' σ' st re rs'=>o μ' H' .non st rs' iX
  | ret d S1=>rw[hm] at o; exact fun μ' H' v st rs' r=>o μ' H' v st rs' r
  | exc e v S1=>rw[hm] at o; exact fun μ' H' σ' c d st re rs' r=>o μ' H' c d st rs' r
  | brk e S1=>rw[hm] at o; exact o.elim
  | cont e S1=>rw[hm] at o; exact o.elim
  | stuck=>rw[hm] at o; exact o
 ·exact o.elim
section
variable {X:Cx} {W:WX} {k:Nat} {f C:Addr} {ps:List Str} {m mi:MF} {x nm cn:Str} {p pos apos:Pos} {e o:Expr} {es:List Expr} {r:MA} {ma mv:ME}
theorem bZ {i:Int} (hm:∃t,X.mg x=some (.int i t)) (hg:Gl X x:=by rfl) (hd:(x == ("__debug__":Str))=false:=by decide):PE X (.Name x pos) (tE X W (eC (.int i))):=hm.elim fun _ h=>u7 hg h hd
theorem vM {i:Str} (hm:∃t,X.mg x=some (.str i t)) (hg:Gl X x:=by rfl) (hd:(x == ("__debug__":Str))=false:=by decide):PE X (.Name x pos) (tE X W (eC (.str i))):=hm.elim fun _ h=>u8 hg h hd
theorem aL (F:FnE X.prog X.w X.K X.mg X.base k f ps m) (hr:Room k X.A) (hm:X.mg x=some (.ref f)) (tk:Takes X W) (ha:PA X (e::es) (tAs X W r)) (hg:Gl X x:=by rfl) (hdb:(x == ("__debug__":Str))=false:=by decide)
  (he:starEach (e::es) X.env=(false,eval e X.env)::starEach es X.env:=by rfl) (hpl:(backTo pos (starEach es X.env)).any (·.1)=false:=by rfl) :
  PE X (.Call (.Name x p) (e::es) [] pos) (tE X W (aR ps.length m r)):=F.elim fun _ F=>vC F hr hg hm tk ha hdb he hpl
theorem mf {pl:Sem Bool} (he:PE X o (tE X W ma)) (hC:X.mg cn=some (.ref C)) (c:Cls X.K C) (hm:Meth X.K C nm f) (F:FnE X.prog X.w X.K X.mg X.base k f ps m) (hr:Room k X.A) (tk:Takes X W) (ha:PA X (e::es) (tAs X W r))
  (hst:starEach (e::es) X.env=(false,eval e X.env)::starEach es X.env:=by rfl) (hpl:(backTo pos (starEach es X.env)).any (·.1)=false:=by rfl)
  (ht:eval (.Call (.Attribute o nm apos) (e::es) [] pos) X.env=(do
   let ov ←eval o X.env
   standAt apos.atName
   let (f,first) ←holding [ov] (getMethod ov nm pl)
   callWith pos f first (backTo pos (starEach (e::es) X.env)) (backToKw pos (keywordEach [] X.env))):=by rfl) :
  PE X (.Call (.Attribute o nm apos) (e::es) [] pos) (tE X W (ka cn nm ps.length m ma r)):=F.elim fun _ F=>vD he hC c hm F hr tk ha hst hpl ht
theorem gv (hC:X.mg cn=some (.ref C)) (M:Mk X.K C f) (F:FnE X.prog X.w X.K X.mg X.base k f ps mi) (hr:Room (k+1) X.A) (tk:Takes X W) (ha:PA X (e::es) (tAs X W r)) (hg:Gl X cn:=by rfl) (hdb:(cn == ("__debug__":Str))=false:=by decide)
  (he:starEach (e::es) X.env=(false,eval e X.env)::starEach es X.env:=by rfl) (hpl:(backTo pos (starEach es X.env)).any (·.1)=false:=by rfl) :
  PE X (.Call (.Name cn p) (e::es) [] pos) (tE X W (iH cn ps.length mi r)):=F.elim fun _ F=>vF hC M F hr hg tk ha hdb he hpl
end
theorem br:bootBuiltins "len"=some (.builtin "len"):=zqD
theorem aI:bootBuiltins "isinstance"=some (.builtin "isinstance"):=zqD
theorem po:bootBuiltins "all"=some (.builtin "all"):=zqD
theorem rh:bootBuiltins "sorted"=some (.builtin "sorted"):=zqD
theorem tZ:bootBuiltins "int"=some (.type "int"):=zqD
theorem qu:bootBuiltins "bool"=some (.type "bool"):=zqD
theorem kl:bootBuiltins "str"=some (.type "str"):=zqD
theorem aq:bootBuiltins "tuple"=some (.type "tuple"):=zqD
theorem vN:bootBuiltins "list"=some (.type "list"):=zqD
theorem vO:bootBuiltins "dict"=some (.type "dict"):=zqD
theorem lW:bootBuiltins "ValueError"=some (.type "ValueError"):=zqD
theorem rj {X:Cx} {W:WX} {ss:List Stmt}:PSs X ss (tS X W kO):=⟨fun _ _ _ _ _ _ ⟨_,_,_,_,o⟩=>o.elim⟩
/-- what isinstance tells of an error of the class C -/
def ktK (C:Str):D→Option Bool
 | .glo y=>if kinds.contains y=true then some (decide (y=C)) else none
 | .ty n=>if n="ValueError" then some true else none
 | _=>none
/-- what is told of an error -/
def oB (cs:List Str):Hdr:=fun C fs=>if cs.contains C=true∧fs.map (·.1)=ck C then some (if fs=[] then .str C else .tup (.str C::(fs.map (·.2)).reverse)) else none
/-- what the head tells of the classes cs -/
structure pp (K:PySem.W.Frag) (mg:Str→Option Value) (cs:List Str):Prop where
 gl:∀y∈kinds,mg y=some (.ref (He.ga K y))
 air:mg "AirError"=some (.ref (He.ga K "AirError"))
 kit:∀C∈cs,∀y∈kinds,PySem.W.kitOne K (.ref (He.ga K C)) (.ref (He.ga K y))=some (decide (y=C))
 val:∀C∈cs,PySem.W.kitOne K (.ref (He.ga K C)) (.type "ValueError")=some true
 exm:∀C∈cs,PySem.W.exmOne K (.ref (He.ga K C)) (.ref (He.ga K "AirError"))=some true
 exc:∀C∈cs,ExcC K (He.ga K C)
 sub:∀C∈cs,C∈kinds
 fld:∀C∈cs,∀n∈ck C,PySem.W.findIn K (.ref (He.ga K C)) n=some none
theorem hk_of {K:PySem.W.Frag} {mg:Str→Option Value} {cs:List Str} (F:pp K mg cs) {C:Str} (hC:C∈cs):∀c b,ktK C c=some b→∃cv,PySem.W.kitOne K (.ref (He.ga K C)) cv=some b∧∀(μ:Mu) (H:Hp) (v:V),Rep K mg μ H c v→∀u,L2.RelV v u→u=cv:=by
 intro c b e
 cases c with
 | glo y=>
  unfold ktK at e
  dsimp only at e
  split at e
  ·rename_i hy
   have hy:y∈kinds:=List.contains_iff_mem.mp hy
   cases e
   refine ⟨_,F.kit C hC y hy,fun μ H v r u ru=>?_⟩
   unfold Rep at r
   obtain ⟨a,rfl,ha⟩:=r
   rw[F.gl y hy] at ha
   cases ha
   exact ru
  ·cases e
 | ty n=>
  unfold ktK at e
  dsimp only at e
  split at e
  ·rename_i hn
   subst hn
   cases e
   refine ⟨_,F.val C hC,fun μ H v r u ru=>?_⟩
   unfold Rep at r
   subst r
   exact ru
  ·cases e
 | _=>cases e
theorem il {K:PySem.W.Frag} {x:Str} (h:(He.Fa.exc x).ok K=true):pb K (He.ga K x):=let ⟨a,b,c,d⟩:=He.exc_ok h; ⟨a,b,c,d⟩
theorem th {P:Program} {w:World} {H:Hp} {s:Shared} {e:Value} {s':Shared} (h:L2N.CX P w [] H s (fun _ _ _=>False) e s'):False:=by
 obtain ⟨_,_,_,_,_,_,_,_,_,_,_,_,z⟩:=h
 exact z.elim
theorem gc {K:PySem.W.Frag} {mg:Str→Option Value} {μ:Mu} {H:Hp}:∀ns:List Int,RepAll K mg μ H (ns.map .int) (ns.map V.int)
 | []=>.nil
 | n::ns=>.cons (bK n) (gc ns)
/-- where the law begins -/
theorem ti {K:PySem.W.Frag} {mg:Str→Option Value} {H:Hp} {a:Addr} {ns:List Int} {m:MF} (hS:SqL K H a (ns.map V.int)) (hT:∀p∈tbs K,H p.1=some (.tbl #[])) (hL:∃S,m [.ro (ns.map .int)] []=.ok (.bool true) S):spD K mg 1 m [.ref a] H (fun v _=>v=.bl true) fun _ _ _=>False:=by
 obtain ⟨S,hL⟩:=hL
 have nm:∀b:Addr,b∉(⟨[],[]⟩:Mu):=fun b z=>z.elim (fun z=>nomatch z) fun z=>nomatch z
 refine ⟨[.ro (ns.map .int)],[],⟨[],[]⟩,⟨rfl,List.nodup_nil,(fun _ h=>by cases h),(fun _ h=>by cases h),(fun l o e=>by simp at e),fun p hp=>TabS.nil (hT p hp)⟩,.cons ?_ .nil,?_⟩
 ·unfold Rep
  refine ⟨a,ns.map V.int,rfl,?_,gc ns⟩
  rcases hS with h|h
  ·exact .inl ⟨h,nm a⟩
  ·exact .inr (.inr h)
 ·have e:chk 1 m [.ro (ns.map .int)] []=.ok (.bool true) S:=by
   unfold chk
   exact hL
  rw[e]
  intro μ' H' v st rs r
  have r:Rep K mg μ' H' (.bool true) v:=r
  unfold Rep at r
  exact r
theorem vP {K:PySem.W.Frag} {D:Addr} (h:excB K D=true):ExcC K D:=by
 unfold excB at h
 simp only[Bool.and_eq_true,decide_eq_true_eq] at h
 obtain ⟨⟨⟨⟨⟨⟨⟨h1,h2⟩,h3⟩,h4⟩,h5⟩,h6⟩,h7⟩,h8⟩:=h
 exact ⟨He.eqO_ok h1,He.eqO_ok h2,h3,h4,He.eqO_ok h5,He.eqO_ok h6,h7,h8⟩
theorem l0 {K:PySem.W.Frag} (h:pJ K=true):(∀p∈lamDefs,((He.cT K p.1).2,p.2)∈tbs K)∧∀p∈lamDefs,∀r∈tbs K,r.1=(He.cT K p.1).2→r.2=p.2:=by
 refine ⟨fun p hp=>List.mem_map.mpr ⟨p,hp,rfl⟩,fun p hp r hr e=>?_⟩
 unfold pJ at h
 simp only[List.all_eq_true,Bool.or_eq_true,Bool.not_eq_true',decide_eq_false_iff_not,decide_eq_true_eq] at h
 rcases h p hp r hr with z|z
 ·exact absurd e z
 ·exact z
theorem rm {K:PySem.W.Frag} {h:Heap} {mg:Str→Option Value} {cs:List Str} (X:K.In h) (G:h.Ns mainGlobals mg) (hx:mK K cs=true) (h1:∀y∈kinds,(He.Fa.glo y).ok K=true) (h2:(He.Fa.glo "AirError").ok K=true) (h3:∀C∈cs,(He.Fa.exm C "AirError" true).ok K=true):pp K mg cs:=by
 unfold mK at hx
 simp only[List.all_eq_true,Bool.and_eq_true,decide_eq_true_eq] at hx
 exact ⟨fun y hy=>He.glo_ok X G (h1 y hy),He.glo_ok X G h2,fun C hC y hy=>(hx C hC).1.1.1.2 y hy,fun C hC=>(hx C hC).1.1.2,fun C hC=>He.exm_ok (h3 C hC),fun C hC=>vP (hx C hC).1.2,fun C hC=>List.contains_iff_mem.mp (hx C hC).1.1.1.1,fun C hC n hn=>He.eqO_ok ((hx C hC).2 n hn)⟩
@[simp] theorem bind_ok {α β:Type} (a:α) (S:Sto) (f:α→Sto→Res β):Res.bind (.ok a S) f=f a S:=rfl
@[simp] theorem bind_exc {α β:Type} (e:XV) (S:Sto) (f:α→Sto→Res β):Res.bind (.exc e S) f=.exc e S:=rfl
@[simp] theorem bind_stuck {α β:Type} (f:α→Sto→Res β):Res.bind (.stuck:Res α) f=.stuck:=rfl
@[simp] theorem e9 {α β:Type} (a:α) (S:Sto) (f:α→Sto→Res β):Res.bindS (.ok a S) f=f a S:=rfl
@[simp] theorem bindS_exc {α β:Type} (e:XV) (S:Sto) (f:α→Sto→Res β):Res.bindS (.exc e S) f=.stuck:=rfl
@[simp] theorem wB {α β:Type} (f:α→Sto→Res β):Res.bindS (.stuck:Res α) f=.stuck:=rfl
@[simp] theorem rs_ok {α:Type} (env:En) (a:α) (S:Sto) (k:α→Sto→RS):Res.rs env (.ok a S) k=k a S:=rfl
@[simp] theorem rs_exc {α:Type} (env:En) (e:XV) (S:Sto) (k:α→Sto→RS):Res.rs env (.exc e S) k=.exc e env S:=rfl
@[simp] theorem rs_stuck {α:Type} (env:En) (k:α→Sto→RS):Res.rs env (.stuck:Res α) k=.stuck:=rfl
@[simp] theorem then_next (e:En) (S:Sto) (k:MS):RS.andThen (.next e S) k=k e S:=rfl
@[simp] theorem then_brk (e:En) (S:Sto) (k:MS):RS.andThen (.brk e S) k=.brk e S:=rfl
@[simp] theorem then_cont (e:En) (S:Sto) (k:MS):RS.andThen (.cont e S) k=.cont e S:=rfl
@[simp] theorem then_ret (d:D) (S:Sto) (k:MS):RS.andThen (.ret d S) k=.ret d S:=rfl
@[simp] theorem then_exc (x:XV) (e:En) (S:Sto) (k:MS):RS.andThen (.exc x e S) k=.exc x e S:=rfl
@[simp] theorem then_stuck (k:MS):RS.andThen .stuck k=.stuck:=rfl
@[simp] theorem ofO_some {α:Type} (S:Sto) (a:α):ofO S (some a)=.ok a S:=rfl
@[simp] theorem ofO_none {α:Type} (S:Sto):ofO S (none:Option α)=.stuck:=rfl
@[simp] theorem ofG_some (p:En × Sto):ofG (some p)=.next p.1 p.2:=rfl
@[simp] theorem ofG_none:ofG none=.stuck:=rfl
@[simp] theorem vt_none  : vt (.none)=.none:=rfl
@[simp] theorem view0_none (S:Sto)  : view0 S (.none)=.none:=rfl
@[simp] theorem view_none (S:Sto)  : view S (.none)=.none:=rfl
@[simp] theorem vt_bool (b:Bool):vt (.bool b)=.bool b:=rfl
@[simp] theorem view0_bool (S:Sto) (b:Bool):view0 S (.bool b)=.bool b:=rfl
@[simp] theorem view_bool (S:Sto) (b:Bool):view S (.bool b)=.bool b:=rfl
@[simp] theorem vt_int (b:Int):vt (.int b)=.int b:=rfl
@[simp] theorem view0_int (S:Sto) (b:Int):view0 S (.int b)=.int b:=rfl
@[simp] theorem view_int (S:Sto) (b:Int):view S (.int b)=.int b:=rfl
@[simp] theorem vt_str (b:Str):vt (.str b)=.str b:=rfl
@[simp] theorem view0_str (S:Sto) (b:Str):view0 S (.str b)=.str b:=rfl
@[simp] theorem view_str (S:Sto) (b:Str):view S (.str b)=.str b:=rfl
@[simp] theorem vt_ty (b:String):vt (.ty b)=.ty b:=rfl
@[simp] theorem view0_ty (S:Sto) (b:String):view0 S (.ty b)=.ty b:=rfl
@[simp] theorem view_ty (S:Sto) (b:String):view S (.ty b)=.ty b:=rfl
@[simp] theorem vt_tup (b:List D):vt (.tup b)=.tup b:=rfl
@[simp] theorem view0_tup (S:Sto) (b:List D):view0 S (.tup b)=.tup b:=rfl
@[simp] theorem view_tup (S:Sto) (b:List D):view S (.tup b)=.tup b:=rfl
@[simp] theorem vt_lst (b:List D):vt (.lst b)=.lst b:=rfl
@[simp] theorem view0_lst (S:Sto) (b:List D):view0 S (.lst b)=.lst b:=rfl
@[simp] theorem oC (S:Sto) (b:List D):view S (.lst b)=.lst b:=rfl
@[simp] theorem vt_ro (b:List D):vt (.ro b)=.ro b:=rfl
@[simp] theorem view0_ro (S:Sto) (b:List D):view0 S (.ro b)=.ro b:=rfl
@[simp] theorem view_ro (S:Sto) (b:List D):view S (.ro b)=.ro b:=rfl
@[simp] theorem vt_glo (b:Str):vt (.glo b)=.glo b:=rfl
@[simp] theorem view0_glo (S:Sto) (b:Str):view0 S (.glo b)=.glo b:=rfl
@[simp] theorem view_glo (S:Sto) (b:Str):view S (.glo b)=.glo b:=rfl
@[simp] theorem vt_adr (b:Addr):vt (.adr b)=.adr b:=rfl
@[simp] theorem view0_adr (S:Sto) (b:Addr):view0 S (.adr b)=.adr b:=rfl
@[simp] theorem view_adr (S:Sto) (b:Addr):view S (.adr b)=.adr b:=rfl
@[simp] theorem vt_exn (a b:Addr) (ns:List Str) (xs:List D):vt (.exn a b ns xs)=.exn a b ns xs:=rfl
@[simp] theorem view0_exn (S:Sto) (a b:Addr) (ns:List Str) (xs:List D):view0 S (.exn a b ns xs)=.exn a b ns xs:=rfl
@[simp] theorem view_exn (S:Sto) (a b:Addr) (ns:List Str) (xs:List D):view S (.exn a b ns xs)=.exn a b ns xs:=rfl
@[simp] theorem vt_tpn (b:List D):vt (.tpn b)=.tup b:=rfl
@[simp] theorem vt_loc (l:Nat):vt (.loc l)=.loc l:=rfl
@[simp] theorem view0_tpn (S:Sto) (b:List D):view0 S (.tpn b)=.tpn b:=rfl
@[simp] theorem view_tpn (S:Sto) (b:List D):view S (.tpn b)=.tup b:=rfl
@[simp] theorem view0_loc (S:Sto) (l:Nat):view0 S (.loc l)=match S[l]? with
 | some (.lst xs)=>.lst xs
 | _=>.loc l:=rfl
@[simp] theorem view_loc (S:Sto) (l:Nat):view S (.loc l)=vt (match S[l]? with
 | some (.lst xs)=>.lst xs
 | _=>.loc l):=rfl
@[simp] theorem eBin_at (f:Sto→D→D→Option D) (ma mb:ME) (env:En) (S:Sto):aJ f ma mb env S=(ma env S).bind fun a S=>(mb env S).bind fun b S=>ofO S (f S a b):=rfl
@[simp] theorem tOf_at (m:ME) (env:En) (S:Sto):tOf m env S=(m env S).bind fun d S=>match d with
 | .bool b=>.ok b S
 | _=>.stuck:=rfl
@[simp] theorem pNo_at (x0:En) (S:Sto):pNo  x0 S=.ok none S:=rfl
@[simp] theorem pSome_at (m:ME) (env:En) (S:Sto):cq m env S=(m env S).bind fun d S=>match d with
 | .int i=>.ok (some i) S
 | _=>.stuck:=rfl
@[simp] theorem eCut_at (m:ME) (ml mh:MP) (env:En) (S:Sto):kM m ml mh env S=(m env S).bind fun d S=>(ml env S).bind fun lo S=>(mh env S).bind fun hi S=>ofO S (jw (view0 S d) lo hi):=rfl
@[simp] theorem eC_at (d:D) (x0:En) (S:Sto):eC d x0 S=.ok d S:=rfl
@[simp] theorem eV_at (i:Nat) (env:En) (S:Sto):eV i env S=match env[i]? with
 | some (some d)=>.ok d S
 | _=>.stuck:=rfl
@[simp] theorem tTru_at (m:ME) (env:En) (S:Sto):b7 m env S=(m env S).bind fun d S=>ofO S (fL S d):=rfl
@[simp] theorem tAndM_at (ma mb:MT) (env:En) (S:Sto):nh ma mb env S=(ma env S).bind fun c S=>if c=true then mb env S else .ok false S:=rfl
@[simp] theorem tOrM_at (ma mb:MT) (env:En) (S:Sto):cF ma mb env S=(ma env S).bind fun c S=>if c=true then .ok true S else mb env S:=rfl
@[simp] theorem tNotM_at (ma:MT) (env:En) (S:Sto):az ma env S=(ma env S).bind fun c S=>.ok (!c) S:=rfl
@[simp] theorem eAnd_at (ma mb:ME) (env:En) (S:Sto):gR ma mb env S=(ma env S).bind fun d S=>(ofO S (fL S d)).bind fun c S=>if c=true then mb env S else .ok d S:=rfl
@[simp] theorem eOr_at (ma mb:ME) (env:En) (S:Sto):eOr ma mb env S=(ma env S).bind fun d S=>(ofO S (fL S d)).bind fun c S=>if c=true then .ok d S else mb env S:=rfl
@[simp] theorem eNot_at (ma:ME) (env:En) (S:Sto):eNot ma env S=(ma env S).bind fun d S=>(ofO S (fL S d)).bind fun c S=>.ok (.bool (!c)) S:=rfl
@[simp] theorem eIf_at (tc:MT) (ma mb:ME) (env:En) (S:Sto):eIf tc ma mb env S=(tc env S).bind fun c S=>if c=true then ma env S else mb env S:=rfl
@[simp] theorem eNeg_at (ma:ME) (env:En) (S:Sto):eNeg ma env S=(ma env S).bind fun d S=>match d with
 | .int i=>.ok (.int (-i)) S
 | _=>.stuck:=rfl
@[simp] theorem eChain_at (f g:Sto→D→D→Option D) (ma mb mc:ME) (env:En) (S:Sto):gT f g ma mb mc env S=(ma env S).bind fun a S=>(mb env S).bind fun b S=>match f S a b with
 | some (.bool true)=>(mc env S).bind fun c S=>ofO S (g S b c)
 | some (.bool false)=>.ok (.bool false) S
 | _=>.stuck:=rfl
@[simp] theorem aNil_at (x0:En) (S:Sto):aH  x0 S=.ok [] S:=rfl
@[simp] theorem aCons_at (m:ME) (r:MA) (env:En) (S:Sto):aB m r env S=(m env S).bind fun d S=>(r env S).bind fun ds S=>.ok (d::ds) S:=rfl
@[simp] theorem eTup_at (r:MA) (env:En) (S:Sto):cN r env S=(r env S).bind fun ds S=>if ds.length≤1000000 then .ok (.tup ds) S else .stuck:=rfl
@[simp] theorem eLst_at (r:MA) (env:En) (S:Sto):cO r env S=(r env S).bind fun ds S=>if ds.length≤1000000 then .ok (.lst ds) S else .stuck:=rfl
@[simp] theorem eLstM_at (r:MA) (env:En) (S:Sto):lp r env S=(r env S).bind fun ds S=>if ds.length≤1000000 then .ok (.loc S.length) (S++[.lst ds]) else .stuck:=rfl
@[simp] theorem eDct_at (t:Bool) (x0:En) (S:Sto):eDct t x0 S=.ok (.loc S.length) (S++[.dct t []]):=rfl
@[simp] theorem sNil_at (env:En) (S:Sto):bp  env S=.next env S:=rfl
@[simp] theorem sSeq_at (a b:MS) (env:En) (S:Sto):aV a b env S=(a env S).andThen b:=rfl
@[simp] theorem sExpr_at (m:ME) (env:En) (S:Sto):eq m env S=(m env S).rs env fun _ S=>.next env S:=rfl
@[simp] theorem sRet_at (m:ME) (env:En) (S:Sto):bW m env S=(m env S).rs env fun d S=>.ret d S:=rfl
@[simp] theorem sRetN_at (x0:En) (S:Sto):sRetN  x0 S=.ret .none S:=rfl
@[simp] theorem sBreak_at (env:En) (S:Sto):tB  env S=.brk env S:=rfl
@[simp] theorem sCont_at (env:En) (S:Sto):sCont  env S=.cont env S:=rfl
@[simp] theorem sStuck_at (x0:En) (x1:Sto):kO  x0 x1=.stuck:=rfl
@[simp] theorem eStuck_at (x0:En) (x1:Sto):tC  x0 x1=.stuck:=rfl
@[simp] theorem tj (tc:MT) (a b:MS) (env:En) (S:Sto):sIf tc a b env S=(tc env S).rs env fun c S=>if c=true then a env S else b env S:=rfl
@[simp] theorem gV_at (i:Nat) (d:D) (env:En) (S:Sto):gV i d env S=some (env.set i (some d),S):=rfl
@[simp] theorem gsNil_at (ds:List D) (env:En) (S:Sto):gW  ds env S=match ds with
 | []=>some (env,S)
 | _=>none:=rfl
@[simp] theorem gsCons_at (g:MG) (gs:MGs) (ds:List D) (env:En) (S:Sto):bY g gs ds env S=match ds with
 | d::ds=>(g d env S).bind fun p=>gs ds p.1 p.2
 | []=>none:=rfl
@[simp] theorem gTupD_at (n:Nat) (gs:MGs) (d:D) (env:En) (S:Sto):fW n gs d env S=match vt d with
 | .tup ds=>if ds.length=n then gs ds env S else none
 | _=>none:=rfl
@[simp] theorem sAsg_at (m:ME) (g:MG) (env:En) (S:Sto):lU m g env S=(m env S).rs env fun d S=>ofG (g d env S):=rfl
@[simp] theorem sPar_at (i j:Nat) (r:MA) (env:En) (S:Sto):pO i j r env S=(r env S).rs env fun ds S=>match ds with
 | [a,b]=>.next ((env.set i (some a)).set j (some b)) S
 | _=>.stuck:=rfl
@[simp] theorem sSet_at (i:Nat) (m:ME) (env:En) (S:Sto):ap i m env S=(m env S).rs env fun d S=>.next (env.set i (some d)) S:=rfl
@[simp] theorem sAug_at (i:Nat) (f:Sto→D→D→Option D) (m:ME) (env:En) (S:Sto):sAug i f m env S=match env[i]? with
 | some (some a)=>(m env S).rs env fun b S=>match f S a b with
  | some d=>.next (env.set i (some d)) S
  | none=>.stuck
 | _=>.stuck:=rfl
@[simp] theorem iAny_at (m:ME) (env:En) (S:Sto):fR m env S=(m env S).bind fun d S=>ofO S (dS S d):=rfl
@[simp] theorem iRng1D_at (r:MA) (env:En) (S:Sto):dz r env S=(r env S).bind fun ds S=>match ds with
 | [.int j]=>if bN j then .ok (.items (jH 0 j.toNat)) S else .stuck
 | _=>.stuck:=rfl
@[simp] theorem iRng2D_at (r:MA) (env:En) (S:Sto):tH r env S=(r env S).bind fun ds S=>match ds with
 | [.int i,.int j]=>if bN i&&bN j then .ok (.items (jH i (j - i).toNat)) S else .stuck
 | _=>.stuck:=rfl
@[simp] theorem iEnumD_at (r:MA) (env:En) (S:Sto):kQ r env S=(r env S).bind fun ds S=>match ds.map vt with
 | [.tup xs]=>.ok (.items (dU 0 xs)) S
 | [.lst xs]=>.ok (.items (dU 0 xs)) S
 | [.loc l]=>match S[l]? with
  | some (.lst _)=>.ok (.liveE l) S
  | _=>.stuck
 | _=>.stuck:=rfl
@[simp] theorem iZipD_at (r:MA) (env:En) (S:Sto):ql r env S=(r env S).bind fun ds S=>match ds.map vt with
 | [.tup xs,.tup ys]=>.ok (.items (eA xs ys)) S
 | [.lst xs,.lst ys]=>.ok (.items (eA xs ys)) S
 | _=>.stuck:=rfl
@[simp] theorem sFor_at (mi:MI) (g:MG) (b:MS) (env:En) (S:Sto):jK mi g b env S=(mi env S).rs env fun it S=>match it with
 | .items ds=>gX g b ds env S
 | .live l=>jj g b l (ie S l+1) 0 env S
 | .liveE l=>jk g b l (ie S l+1) 0 env S:=rfl
@[simp] theorem compR_at (mi:MI) (g:MG) (tc:MT) (m:ME) (vs:List Nat) (env:En) (S:Sto):gY mi g tc m vs env S=(mi env S).bind fun it S=>match it with
 | .items ds=>dM g tc m (aa env vs) ds [] S
 | .live l=>kT g tc m (aa env vs) l (ie S l+1) 0 [] S
 | .liveE l=>kU g tc m (aa env vs) l (ie S l+1) 0 [] S:=rfl
@[simp] theorem oD (mi:MI) (g:MG) (tc:MT) (m:ME) (vs:List Nat) (env:En) (S:Sto):cE mi g tc m vs env S=(gY mi g tc m vs env S).bind fun ds S=>.ok (.lst ds) S:=rfl
@[simp] theorem eCompM_at (mi:MI) (g:MG) (tc:MT) (m:ME) (vs:List Nat) (env:En) (S:Sto):tJ mi g tc m vs env S=(gY mi g tc m vs env S).bind fun ds S=>.ok (.loc S.length) (S++[.lst ds]):=rfl
@[simp] theorem tq (x0:En) (S:Sto):b5  x0 S=.ok true S:=rfl
@[simp] theorem chk_at (n:Nat) (m:MF) (ds:List D) (S:Sto):chk n m ds S=if ds.length=n then m ds S else .stuck:=rfl
@[simp] theorem tr (n:Nat) (m:MS) (ds:List D) (S:Sto):bF n m ds S=match m (ds.map some++List.replicate n none) S with
 | .next _ S=>.ok .none S
 | .ret d S=>.ok d S
 | .exc e _ S=>.exc e S
 | _=>.stuck:=rfl
@[simp] theorem eCall_at (n:Nat) (m:MF) (r:MA) (env:En) (S:Sto):aR n m r env S=(r env S).bind fun ds S=>chk n m ds S:=rfl
@[simp] theorem eMeth_at (cn nm:Str) (n:Nat) (m:MF) (ma:ME) (r:MA) (env:En) (S:Sto):ka cn nm n m ma r env S=(ma env S).bind fun d S=>match d with
 | .loc l=>match S[l]? with
  | some (.ins C fs)=>if C=cn∧(fs.map (·.1)).contains nm=false then (r env S).bind fun ds S=>chk n m (.loc l::ds) S else .stuck
  | _=>.stuck
 | _=>.stuck:=rfl
@[simp] theorem eMake_at (cn:Str) (n:Nat) (mi:MF) (r:MA) (env:En) (S:Sto):iH cn n mi r env S=(r env S).bind fun ds S=>(chk n mi (.loc S.length::ds) (S++[.ins cn []])).bind fun d S'=>match d with
 | .none=>.ok (.loc S.length) S'
 | _=>.stuck:=rfl
@[simp] theorem eFld_at (cn f:Str) (ma:ME) (env:En) (S:Sto):eFld cn f ma env S=(ma env S).bind fun d S=>match d with
 | .loc l=>match S[l]? with
  | some (.ins C fs)=>if C=cn then ofO S (fs.lookup f) else .stuck
  | _=>.stuck
 | _=>.stuck:=rfl
@[simp] theorem sFldM_at (cn f:Str) (ma mv:ME) (env:En) (S:Sto):n0 cn f ma mv env S=(mv env S).rs env fun d S=>(ma env S).rs env fun o S=>match o with
 | .loc l=>match S[l]? with
  | some (.ins C fs)=>if C=cn∧fs.length<1000 then .next env (S.set l (.ins C (iD f d fs))) else .stuck
  | _=>.stuck
 | _=>.stuck:=rfl
@[simp] theorem eB_at (f:BF) (r:MA) (env:En) (S:Sto):eB f r env S=(r env S).bind fun ds S=>ofO S (f S ds):=rfl
@[simp] theorem eM_at (ok:Sto→D→Bool) (f:BM) (ma:ME) (r:MA) (env:En) (S:Sto):eM ok f ma r env S=(ma env S).bind fun d S=>if ok S d then (r env S).bind fun ds S=>match f S d ds with
 | some p=>.ok p.1 p.2
 | none=>.stuck else .stuck:=rfl
@[simp] theorem gSubM_at (mo mi:ME) (v:D) (env:En) (S:Sto):ki mo mi v env S=match mo env S with
 | .ok o S=>match mi env S with
  | .ok i S=>(eE S o i v).map fun S=>(env,S)
  | _=>none
 | _=>none:=rfl
@[simp] theorem eRev_at (m:ME) (env:En) (S:Sto):eRev m env S=(m env S).bind fun d S=>match view S d with
 | .lst xs=>.ok (.lst xs.reverse) S
 | _=>.stuck:=rfl
@[simp] theorem eDictP_at (r:MA) (env:En) (S:Sto):tR r env S=(r env S).bind fun ds S=>match ds with
 | [.tpn xs]=>match gu xs with
  | some ps=>if xs.length≤1000000 then .ok (.loc S.length) (S++[.dct false (eF [] ps)]) else .stuck
  | none=>.stuck
 | _=>.stuck:=rfl
@[simp] theorem eDComp_at (mi:MI) (g:MG) (tc:MT) (mk mv:ME) (vs:List Nat) (env:En) (S:Sto):kj mi g tc mk mv vs env S=(mi env S).bind fun it S=>match it with
 | .items ds=>(eG g tc mk mv (aa env vs) ds [] S).bind kD
 | .live _=>.stuck
 | .liveE _=>.stuck:=rfl
@[simp] theorem sRaise_at (C:Str) (env:En) (S:Sto):gZ C env S=.exc ⟨C,[]⟩ env S:=rfl
@[simp] theorem eKind_at (hd:Hdr) (m:ME) (env:En) (S:Sto):oA hd m env S=fY hd (m env S):=rfl
@[simp] theorem kD_at (kvs:List (D × D)) (S:Sto):kD kvs S=.ok (.loc S.length) (S++[.dct false kvs]):=rfl
@[simp] theorem lv_at (f:D→D→Option D) (S:Sto) (a b:D):lv f S a b=f (view S a) (view S b):=rfl
@[simp] theorem lv0_at (f:D→D→Option D) (S:Sto) (a b:D):lv0 f S a b=f (view0 S a) (view0 S b):=rfl
@[simp] theorem oI_at (g:Int→Int→Int) (i j:Int):oI g (.int i) (.int j)=some (.int (g i j)):=rfl
@[simp] theorem oIC_at (C:Int→Int→Bool) (g:Int→Int→Int) (i j:Int):oIC C g (.int i) (.int j)=if C i j then some (.int (g i j)) else none:=rfl
@[simp] theorem oIB_at (g:Int→Int→Bool) (i j:Int):oIB g (.int i) (.int j)=some (.bool (g i j)):=rfl
@[simp] theorem dAdd_int (i j:Int):bH (.int i) (.int j)=some (.int (i+j)):=rfl
@[simp] theorem dAdd_str (x y:Str):bH (.str x) (.str y)=if x.length+y.length≤1000000 then some (.str (x++y)) else none:=rfl
@[simp] theorem dAdd_tup (xs ys:List D):bH (.tup xs) (.tup ys)=if xs.length+ys.length≤1000000 then some (.tup (xs++ys)) else none:=rfl
@[simp] theorem dAdd_lst (xs ys:List D):bH (.lst xs) (.lst ys)=if xs.length+ys.length≤1000000 then some (.lst (xs++ys)) else none:=rfl
@[simp] theorem dEq_at (a b:D):dEq a b=if dok 60 a&&dok 60 b then some (.bool (peq a b)) else none:=rfl
@[simp] theorem dNe_at (a b:D):dNe a b=if dok 60 a&&dok 60 b then some (.bool (!peq a b)) else none:=rfl
@[simp] theorem fIn_at (S:Sto) (a b:D):fIn S a b=(dIn S a b).map .bool:=rfl
@[simp] theorem fNotIn_at (S:Sto) (a b:D):eh S a b=(dIn S a b).map fun c=>.bool (!c):=rfl
@[simp] theorem dIsN_at (a:D):dIsN a .none=some (.bool (isN a)):=rfl
@[simp] theorem dIsntN_at (a:D):mO a .none=some (.bool (!isN a)):=rfl
theorem im {fs:List (Str × D)} {dd:Option Addr} (h:fs.map (·.1)=[]) (k:DdK fs dd):fs=[]∧dd=none:=by
 have e:fs=[]:=List.map_eq_nil_iff.mp h
 rcases k with k|⟨k,_⟩
 ·exact k
 ·exact absurd e k
theorem vQ {fs:List (Str × D)} {dd:Option Addr} (h:fs≠[]) (k:DdK fs dd):∃d,dd=some d:=by
 rcases k with ⟨k,_⟩|⟨_,k⟩
 ·exact absurd k h
 ·exact k
theorem ex_two {fs:List (Str × D)} {dd:Option Addr} {a b:Str} (h:fs.map (·.1)=[a,b]) (k:DdK fs dd):∃x y d,fs=[(a,x),(b,y)]∧dd=some d:=by
 match fs,h with
 | [(a',x),(b',y)],h=>
  obtain ⟨rfl,rfl⟩:a'=a∧b'=b:=by simpa using h
  obtain ⟨d,rfl⟩:=vQ zqS k
  exact ⟨x,y,d,rfl,rfl⟩
theorem aO {a b:MS} {env env':En} {S S':Sto} {r:RS} (h:a env S=.next env' S') (h2:b env' S'=r):aV a b env S=r:=by
 unfold aV; rw[h]; exact h2
theorem qv {ea:Addr} {dd:Option Addr} {fs:List (Str × D)} {kt:D→Option Bool} {c:D} {b:Bool} {env:En} {S:Sto} (h:env[1]?=some (some (exD ea fs dd))) (hk:kt c=some b):eB (cr ea dd kt) (aB (eV 1) (aB (eC c) aH)) env S=.ok (.bool b) S:=by
 cases dd<;>simp[eB,aB,eV,h,cr,hk,exD]
theorem tw {ea:Addr} {dd:Option Addr} {fs0:List (Str × D)} {kt:D→Option Bool} {c:D} {b:Bool} {env:En} {S:Sto} {r:MA} {ds:List D} (h:env[1]?=some (some (exD ea fs0 dd))) (hk:kt c=some b) (hr:r env S=.ok ds S):aB (eB (cr ea dd kt) (aB (eV 1) (aB (eC c) aH))) r env S=.ok (.bool b::ds) S:=by
 show Res.bind (eB (cr ea dd kt) (aB (eV 1) (aB (eC c) aH)) env S) _=_
 rw[qv h hk]
 show Res.bind (r env S) _=_
 rw[hr]
 rfl
theorem aM {C y:Str} {ea:Addr} {dd:Option Addr} {fs0:List (Str × D)} {env:En} {S:Sto} {r:MA} {ds:List D} (h:env[1]?=some (some (exD ea fs0 dd))) (hk:kinds.contains y=true) (hr:r env S=.ok ds S):aB (eB (cr ea dd (ktK C)) (aB (eV 1) (aB (eC (.glo y)) aH))) r env S=.ok (.bool (decide (y=C))::ds) S:=
 tw h (by unfold ktK; simp only[hk,if_true]) hr
theorem gw {i:Nat} {r:MA} {env:En} {S:Sto} {ds:List D} (h:r env S=.ok ds S) (hl:ds.length≤1000000):ap i (cO r) env S=.next (env.set i (some (.lst ds))) S:=by
 simp[ap,cO,h,hl,Res.rs]
theorem af {i j:Nat} {r:MA} {env:En} {S:Sto} {ds xs:List D} (hj:env[j]?=some (some (.lst xs))) (h:r env S=.ok ds S) (hl:ds.length≤1000000) (hl2:xs.length+ds.length≤1000000):ap i (aJ (lv0 bH) (eV j) (cO r)) env S=.next (env.set i (some (.lst (xs++ds)))) S:=by
 simp[ap,aJ,eV,cO,h,hl,hj,hl2,Res.rs]
theorem l4 {i:Nat} {d:D} {env:En} {S:Sto}:ap i (eC d) env S=.next (env.set i (some d)) S:=rfl
theorem c8 {i j:Nat} {x y:Str} {env:En} {S:Sto} (hj:env[j]?=some (some (.str x))) (hl:decide (x.length+y.length≤1000000)=true):ap i (aJ (lv0 bH) (eV j) (eC (.str y))) env S=.next (env.set i (some (.str (x++y)))) S:=by
 have hl:=of_decide_eq_true hl
 simp[ap,aJ,eV,hj,hl,Res.rs]
theorem fZ {ea:Addr} {dd:Option Addr} {fs0:List (Str × D)} {kt:D→Option Bool} {c:D} {env:En} {S:Sto} (h:env[1]?=some (some (exD ea fs0 dd))) (hk:kt c=some true):az (b7 (eB (cr ea dd kt) (aB (eV 1) (aB (eC c) aH)))) env S=.ok false S:=by
 unfold az b7
 rw[qv h hk]
 simp[fL]
theorem jP {ta tb:MT} {env:En} {S:Sto} (h1:ta env S=.ok false S) (h2:tb env S=.ok false S):cF ta tb env S=.ok false S:=by
 simp[cF,h1,h2]
theorem set_ok {i:Nat} {m:ME} {d:D} {env:En} {S:Sto} (h:m env S=.ok d S):ap i m env S=.next (env.set i (some d)) S:=by
 unfold ap; rw[h]; rfl
theorem tz {ea d:Addr} {ok:Bool} {f:Str} {ns:List Str} {ds:List D} {x:D} {env:En} {S:Sto} (h:env[1]?=some (some (.exn ea d ns ds))) (l:(ns.zip ds).lookup f=some x) (o:ok=true):eXf ea (some d) ok f (eV 1) env S=.ok x S:=by
 simp[eXf,eV,h,l,o]
theorem vR {t:MT} {m:MS} {ea d:Addr} {o1 o2:Bool} {f1 f2:Str} {ns:List Str} {ds:List D} {w x y:D} {env:En} {S:Sto} (ht:t env S=.ok true S) (h4:env[4]?=some (some w)) (h:env[1]?=some (some (.exn ea d ns ds))) (l1:(ns.zip ds).lookup f1=some x) (l2:(ns.zip ds).lookup f2=some y) (p1:o1=true) (p2:o2=true) :
  aV (sIf t (bW (cN (aB (eV 4) (aB (eXf ea (some d) o1 f1 (eV 1)) (aB (eXf ea (some d) o2 f2 (eV 1)) aH))))) bp) m env S=.ret (.tup [w,x,y]) S:=by
 simp[aV,sIf,ht,Res.rs,bW,cN,aB,eV,h4,tz h l1 p1,tz h l2 p2,aH]
theorem l5 {t:MT} {a:MS} {env:En} {S:Sto} (h:t env S=.ok false S):sIf t a bp env S=.next env S:=by
 simp[sIf,h,Res.rs]
/-- one parameter x; else captured names and globals -/
structure LamS1 (sc scope:Scope) (x:Str):Prop where
 kind:scope.kind=.function
 co:scope.isCoroutine=false
 gen:scope.isGenerator=false
 par:scope.names.lookup x=some .local
 own:∀y∈scope.names,y.2=.local→y.1=x
 nocell:∀y∈scope.names,y.2≠.cell
 free:∀y∈scope.names,y.2=.free→sc.names.lookup y.1=some .cell∨sc.names.lookup y.1=some .free
def t3 (sc scope:Scope) (x:Str):Bool:=
 decide (scope.kind=.function)&&!scope.isCoroutine&&!scope.isGenerator&&decide (scope.names.lookup x=some .local)&&scope.names.all fun y=>(!decide (y.2=.local)||decide (y.1=x))&&!decide (y.2=.cell)&&(!decide (y.2=.free)||decide (sc.names.lookup y.1=some .cell)||decide (sc.names.lookup y.1=some .free))
theorem cx {sc scope:Scope} {x:Str} (h:t3 sc scope x=true):LamS1 sc scope x:=by
 unfold t3 at h
 simp only[Bool.and_eq_true,Bool.or_eq_true,Bool.not_eq_true',decide_eq_true_eq,decide_eq_false_iff_not,List.all_eq_true] at h
 obtain ⟨⟨⟨⟨h1,h2⟩,h3⟩,h5⟩,h4⟩:=h
 refine ⟨h1,h2,h3,h5,fun y hy e=>?_,fun y hy=>(h4 y hy).1.2,fun y hy e=>?_⟩
 ·rcases (h4 y hy).1.1 with z|z
  ·exact absurd e z
  ·exact z
 ·rcases (h4 y hy).2 with (z|z)|z
  ·exact absurd e z
  ·exact .inl z
  ·exact .inr z
theorem LamS1.has {X:Cx} {scope:Scope} {x:Str} (L:LamS1 X.env.scope scope x) (ok:X.Ok):∀y∈scope.names,y.2=.free→∃c,X.env.cells.lookup y.1=some c:=fun y hy e=>by
 rcases L.free y hy e with k|k
 ·exact ok.has _ (.inl k)
 ·exact ok.has _ (.inr k)
section
variable {X:Cx} {pins:List (Addr × Obj)} {σ:L2.St} {H HZ:Hp} {s s1:Shared}
theorem pq {A:Around} {outer:List Env} {E:XK} {scope:Scope} {f c':Addr} {h₁:Heap} {tk:Nat} {x:Str} {i:Nat} {v:V} {u:Value} (I:Inv X pins σ H s) (L:LamS1 X.env.scope scope x) (nd:X.N.Nodup) (hi:X.N[i]?=some x) (rv:L2.RelV v u) (e0:Env0 X.prog X.w X.K X.mg X.base A outer s1 HZ) (hd:A.handled=none)
  (un:Un (frs X.stack) [] H HZ s.heap s1.heap) (hns:h₁.Ns s1.heap.objs.size fun y=>([(x,u)]:List (Str × Value)).reverse.lookup y) (kp:∀b o,s1.heap.get? b=some o→h₁.get? b=some o) :
  Inv (lamCx X A outer s1 HZ E scope f c') [] (σ.set i (some v)) HZ { s1 with heap:=h₁,toks:=tk }:=by
 have hfree:=L.has I.ok
 have cm:∀ {y c},(cloFrom X.env.cells scope.names []).lookup y=some c→X.env.cells.lookup y=some c:=fun {y c} e=>by
  rcases cloFrom_mem (PySem.mem_of_lookup e) with hm|⟨h1,h2⟩
  ·cases hm
  ·obtain ⟨c1,hc⟩:=hfree _ h1 rfl
   have hc:X.env.cells.lookup y=some c1:=hc
   have e2:c=c1:=by
    rw[h2,hc]<;>rfl
   rw[e2]
   exact hc
 have look:∀ {y},scope.names.lookup y=some .free→∃c,(cloFrom X.env.cells scope.names []).lookup y=some c:=fun {y} hl=>by
  have hy:(y,NameKind.free)∈scope.names:=PySem.mem_of_lookup hl
  exact mem_lookup (cloFrom_has (cells:=X.env.cells) (acc:=[]) hy)
 have cellK:∀ {c:Addr} {v:Option Value},H c=none→s.heap.IsCell c v→h₁.IsCell c v:=fun {c v} n ⟨o,ho,hd⟩=>by
  obtain ⟨sl,q⟩:=un.any ho n zqS
  exact ⟨_,kp _ _ q,hd⟩
 have noA:∀b:Addr,b∉(lamCx X A outer s1 HZ E scope f c').ex:=fun b z=>absurd (show b∈([]:List Addr) from z) zqS
 have hil:i<σ.length:=by rw[I.len]; exact (List.getElem?_eq_some_iff.mp hi).1
 refine ⟨⟨e0.mod,L.kind,rfl,rfl,Nat.le_refl _,fun y z c e1 e2=>I.ok.inj y z c (cm e1) (cm e2),fun y hy=>?_,fun y c z _=>?_,fun _=>hd,Around.frames_deeper e0.frames,.inr ⟨rfl,rfl⟩,fun b z=>absurd z (noA b),e0.bs,e0.bsz,fun b _ _=>noA b,
   fun b z=>absurd z (noA b),e0.funs,e0.frf⟩,
  rfl,e0.bare,Un.kept kp,⟨_,hns,fun j y v' e1 e2 e3=>?_⟩,fun y c e=>?_,e0.hok.fresh (Nat.le_refl _),fun y c e=>?_,fun q hq=>absurd (show q∈([]:List (Addr × Obj))++[] from hq) zqS,e0.hok.kept kp,by rw[List.length_set]; exact I.len⟩
 ·have hy:scope.names.lookup y=some .cell∨scope.names.lookup y=some .free:=hy
  rcases hy with hy|hy
  ·exact absurd rfl (L.nocell _ (PySem.mem_of_lookup hy))
  ·exact look hy
 ·have z:false=true:=z
  cases z
 ·have e3:Vis scope y:=e3
  by_cases hj:j=i
  ·subst hj
   have hyx:y=x:=Option.some.inj (e1.symm.trans hi)
   subst hyx
   rw[List.getElem?_set_self hil] at e2
   cases e2
   refine ⟨u,rv,.inl ⟨L.par,?_⟩⟩
   simp[List.lookup]
  ·rw[List.getElem?_set_ne (Ne.symm hj)] at e2
   have hyx:y≠x:=fun z=>hj (nodup_ix nd (by rw[z] at e1; exact e1) hi)
   rcases e3 with k|k|k
   ·exact absurd (L.own _ (PySem.mem_of_lookup k) rfl) hyx
   ·exact absurd rfl (L.nocell _ (PySem.mem_of_lookup k))
   ·obtain ⟨m,hn,hl⟩:=I.loc
    have hvis:Vis X.env.scope y:=(L.free _ (PySem.mem_of_lookup k) rfl).elim (fun k=>.inr (.inl k)) (fun k=>.inr (.inr k))
    obtain ⟨w',r,q⟩:=hl j y v' e1 e2 hvis
    obtain ⟨c2,h2⟩:=look k
    refine ⟨w',r,.inr ⟨.inr k,c2,h2,?_⟩⟩
    have c1:=cm h2
    rcases q with ⟨k',_⟩|⟨_,c3,e',z⟩
    ·have k':X.env.scope.names.lookup y=some .local:=k'
     rcases L.free _ (PySem.mem_of_lookup k) rfl with k2|k2<;>rw[show X.env.scope.names.lookup y=_ from k2] at k'<;>cases k'
    ·rw[c1] at e'
     cases e'
     exact cellK (I.freeC y _ c1) z
 ·obtain ⟨w',z⟩:=I.cell y c (cm e)
  exact ⟨w',cellK (I.freeC y c (cm e)) z⟩
 ·obtain ⟨v,o,ho,hd⟩:=I.cell y c (cm e)
  exact un.free c o ho (I.freeC y c (cm e)) zqS
end
end DL
namespace DL
open PySem PySem.Spec PyProof.Rows L2 LamX PySem.W
/-- the keys,one behind the other -/
def t4 (mk:ME) (i:Nat) (env:En):List D→List D→Sto→Res (List D)
 | [],acc,S=>.ok acc S
 | d::ds,acc,S=>(mk (env.set i (some d)) S).bindS fun k S=>t4 mk i env ds (acc++[k]) S
def t5 (xs ks:List D):List D:=((xs.zip ks).mergeSort fun a b=>dle a.2 b.2).map (·.1)
def t6 (m:ME) (i:Nat) (mk:ME):ME:=fun env S=>(m env S).bind fun d S=>match pZ S d with
 | some xs=>(t4 mk i env xs [] S).bindS fun ks S=>if tQ ks=true∧xs.length≤1000000 then .ok (.loc S.length) (S++[.lst (t5 xs ks)]) else .stuck
 | none=>.stuck
end DL
namespace DL
open PySem PySem.Spec PyProof.Rows L2 LamX
section
variable {K:PySem.W.Frag} {mg:Str→Option Value} {μ μ':Mu} {H H':Hp} {S S':Sto} {env:En} {σ:L2.St} {l:Nat} {t:Bool} {kvs:List (D × D)} {a:Addr} {u:HO}
theorem RelS.dict (rs:RelS K mg μ H S) (e:S[l]?=some (.dct t kvs)):∃a u,μ.l[l]?=some a∧H a=some u∧Mut (some u)∧NF H a∧(∀ps,u≠.tbl ps)∧RepO K mg μ H (.dct t kvs) a:=by
 obtain ⟨a,h1,h2⟩:=rs.at_ l _ e
 cases t with
 | false=>
  obtain ⟨vs,ks,⟨q,hk⟩,rr⟩:=id h2
  exact ⟨a,_,h1,q,trivial,.of q,fun _ z=>(nomatch z),h2⟩
 | true=>
  obtain ⟨vs,ks,⟨q,hk⟩,rr⟩:=id h2
  exact ⟨a,_,h1,q,trivial,.of q,fun _ z=>(nomatch z),h2⟩
end
/-- the dict that ml tells is locked while mb runs -/
def eLock (ml mb:ME):ME:=fun env S=>match ml env S with
 | .ok (.loc l) _=>match S[l]? with
  | some (.dct t kvs)=>match mb env (S.set l (.fdc t kvs)) with
   | .ok d S'=>.ok d (S'.set l (.dct t kvs))
   | _=>.stuck
  | _=>.stuck
 | _=>.stuck
def sLock (ml:ME) (mb:MS):MS:=fun env S=>match ml env S with
 | .ok (.loc l) _=>match S[l]? with
  | some (.dct t kvs)=>match mb env (S.set l (.fdc t kvs)) with
   | .next e S'=>.next e (S'.set l (.dct t kvs))
   | .brk e S'=>.brk e (S'.set l (.dct t kvs))
   | .cont e S'=>.cont e (S'.set l (.dct t kvs))
   | .ret d S'=>.ret d (S'.set l (.dct t kvs))
   | _=>.stuck
  | _=>.stuck
 | _=>.stuck
end DL
namespace DL
open PySem PySem.Spec PyProof.Rows L2
theorem WalkOk.stp {K:PySem.W.Frag} {mg:Str→Option Value} {μ μ':Mu} {H H':Hp} {it:ItD} {J:It} (s:Stp μ H μ' H') (h:WalkOk K mg μ H it J):WalkOk K mg μ' H' it J:=by
 cases it with
 | items ds=>
  have h:eO K mg μ H ds J:=h
  exact (⟨fun i μ2 H2 hi t=>h.goes i μ2 H2 hi (s.trans t),fun μ2 H2 t=>h.stops μ2 H2 (s.trans t),fun i d μ2 H2 S x H3 hd t rs y=>h.yields i d μ2 H2 S x H3 hd (s.trans t) rs y⟩:eO K mg μ' H' ds J)
 | live l=>
  obtain ⟨a,ha,e⟩:=h
  exact ⟨a,s.get ha,e⟩
 | liveE l=>
  obtain ⟨a,ha,e⟩:=h
  exact ⟨a,s.get ha,e⟩
end DL
namespace DL
open PySem PySem.Spec PyProof.Rows L2 LamX
def isD (S:Sto) (d:D):Bool:=match d with
 | .loc l=>(dE S[l]?).isSome
 | _=>false
def t7 (S:Sto) (d k z:D):Option D:=match d with
 | .loc l=>match dE S[l]? with
  | some (t,kvs)=>if cp t k=true then some ((iF t kvs k).getD z) else none
  | none=>none
 | _=>none
def eGet (md mk mz:ME):ME:=fun env S=>(md env S).bind fun d S=>if isD S d=true then (mk env S).bind fun k S=>(mz env S).bind fun z S=>ofO S (t7 S d k z) else .stuck
def eSetd (md mk mz:ME):ME:=fun env S=>(md env S).bind fun d S=>if isD S d=true then (mk env S).bind fun k S=>(mz env S).bind fun z S=>match d with
 | .loc l=>match S[l]? with
  | some (.dct false kvs)=>if cp false k=true∧kvs.length<1000000 then (match iF false kvs k with
   | some v=>.ok v S
   | none=>.ok z (S.set l (.dct false (kh false kvs k z)))) else .stuck
  | _=>.stuck
 | _=>.stuck else .stuck
/-- a def with n parameters and one by keyword only,whose default is an int -/
def FnKw (P:Program) (w:World) (K:PySem.W.Frag) (mg:Str→Option Value) (base:Heap) (k:Nat) (f:Addr) (ps:List Str) (n:Nat) (kn:Str) (dv:Int) (m:MF):Prop:=
 ∃fd,FnOk P w K mg base (L2N.CX P w) k f fd ps (spD K mg ps.length m)∧PySem.W.keepIn K (.ref f)=true∧(∃ds,Vals [V.int dv] ds∧Binds K fd ps ds)∧KBn K fd ps n [kn] (fun us ws=>us++ws) (fun vs zs=>vs++zs)
def km (n:Nat) (d:D) (m:MF) (r:MA):ME:=fun env S=>(r env S).bind fun ds S=>chk n m (ds++[d]) S
def t8 (n k:Nat) (m:MF) (r rk:MA):ME:=fun env S=>(r env S).bind fun ds S=>(rk env S).bind fun zs S=>if ds.length=k then chk n m (ds++zs) S else .stuck
section
variable {X:Cx} {W:WX} {k n:Nat} {f:Addr} {ps:List Str} {m:MF} {x kn:Str} {dv:Int} {p pos kpos:Pos} {e ek:Expr} {es:List Expr} {r:MA} {mk:ME}
theorem pv {K:PySem.W.Frag} {mg:Str→Option Value} {μ:Mu} {H:Hp} (i:Int):RepAll K mg μ H [.int i] [.int i]:=.cons (bK i) .nil
theorem t9 (F:FnKw X.prog X.w X.K X.mg X.base k f ps n kn dv m) (hr:Room k X.A) (hm:X.mg x=some (.ref f)) (tk:Takes X W) (ha:PA X (e::es) (tAs X W r)) (hg:Gl X x:=by rfl) (hdb:(x == ("__debug__":Str))=false:=by decide)
  (he:starEach (e::es) X.env=(false,eval e X.env)::starEach es X.env:=by rfl) (hpl:(backTo pos (starEach es X.env)).any (·.1)=false:=by rfl) :
  PE X (.Call (.Name x p) (e::es) [] pos) (tE X W (km ps.length (.int dv) m r)):=by
 obtain ⟨fd,ok,kp,⟨ds,hv,b⟩,_⟩:=F
 refine b4 (pe_callSD ok hr hg hm kp b hv (passAt tk) ha hdb he hpl) fun σ H Q ⟨env,S,μ,rl,o⟩=>?_
 exact ⟨env,S,μ,rl,(Out.bind o).mono fun vs H1 ⟨μ1,S1,ds,st,rs,rd,o1⟩=>⟨ds++[.int dv],S1,μ1,rs,rd.append (pv dv),j7 o1⟩⟩
end
theorem fn_okK {P:Program} {w:World} {K:PySem.W.Frag} {mg:Str→Option Value} {base:Heap} {x qual:Str} {st:Stmt} {f:Addr} {N ps:List Str} {k n a:Nat} {m:MS} {kn:Str} {dv:Int} (F:∃fd,FunD K x qual (defArgs st) (defBody st) (defScope st) [] [(kn,V.int dv)] f fd) (S:FnScope N ps (defScope st)) (hn:N.length - ps.length=n) (ha:a+1=ps.length)
  (hb:∀(D:Addr) (doc pm:Value) (an:Option Addr) (cdv ct:Value) (us ks:List Value),us.length=a→ks.length=1→
   KwChain D ([kn].zip ks) (bindArgs (PySem.W.fnOf x qual (defArgs st) (defBody st) (defScope st) .none (.ref D) doc pm an cdv ct) ⟨us,[]⟩) (ps.zip (us++ks)))
  (hk:∀(D:Addr) (doc pm:Value) (an:Option Addr) (cdv ct:Value) (us ws:List Value),us.length=a→ws.length=1→
   bindArgs (PySem.W.fnOf x qual (defArgs st) (defBody st) (defScope st) .none (.ref D) doc pm an cdv ct) ⟨us,[kn].zip ws⟩=pure (ps.zip (us++ws)))
  (hbody:∀(cdv:Value) (A:Around) (outer:List Env) (s:Shared) (H:Hp) (E:XK),PassesOwn (model P w) (cxOf (L2N.CX P w) P w K mg base N qual (defScope st) f cdv A outer s H E).A (cxOf (L2N.CX P w) P w K mg base N qual (defScope st) f cdv A outer s H E).env (cxOf (L2N.CX P w) P w K mg base N qual (defScope st) f cdv A outer s H E).xe→
   Room k (cxOf (L2N.CX P w) P w K mg base N qual (defScope st) f cdv A outer s H E).A→∀W,Takes (cxOf (L2N.CX P w) P w K mg base N qual (defScope st) f cdv A outer s H E) W→PSs (cxOf (L2N.CX P w) P w K mg base N qual (defScope st) f cdv A outer s H E) (defBody st) (tS (cxOf (L2N.CX P w) P w K mg base N qual (defScope st) f cdv A outer s H E) W m)):FnKw P w K mg base (k+1) f ps a kn dv (bF n m):=by
 obtain ⟨fd,F⟩:=F
 have b:=F.binds0 a zqS (by simp; exact ha) hb
 obtain ⟨mv,kb⟩:=F.kbinds0 a [kn] [] (fun us _ ws=>us++ws) zqS zqS (fun r1 _ r3=>r1.append r3) fun D doc pm an cdv ct us mv ws l1 l2 l3=>by
  have:mv=[]:=List.length_eq_zero_iff.mp l2
  subst this
  exact hk D doc pm an cdv ct us ws l1 l3
 refine ⟨fd,F.ok S (fun vs H Q E h=>qm h) (fun cdv A outer s H vs Q E hr h=>?_),F.kp,b,kb⟩
 refine ⟨_,hbody cdv A outer s H E (passes_of rfl) hr (fun cls d _ H=>E cls d H) (takes_of rfl rfl rfl rfl),?_⟩
 obtain ⟨ds,So,μ,rs,ra,o⟩:=h
 unfold chk at o
 split at o
 ·rename_i hl
  have e0:n=N.length - ds.length:=by rw[hl]; exact hn.symm
  refine ⟨ds.map some++List.replicate n none,So,μ,⟨by rw[e0]; exact kZ ra,rs⟩,?_⟩
  unfold bF at o
  cases hm:m (ds.map some++List.replicate n none) So with
  | next e S1=>rw[hm] at o; exact fun μ' H' σ' st re rs'=>o μ' H' .non st rs' iX
  | ret d S1=>rw[hm] at o; exact fun μ' H' v st rs' r=>o μ' H' v st rs' r
  | exc e v S1=>rw[hm] at o; exact fun μ' H' σ' c d st re rs' r=>o μ' H' c d st rs' r
  | brk e S1=>rw[hm] at o; exact o.elim
  | cont e S1=>rw[hm] at o; exact o.elim
  | stuck=>rw[hm] at o; exact o
 ·exact o.elim
def sPar3 (i j l:Nat) (r:MA):MS:=fun env S=>(r env S).rs env fun ds S=>match ds with
 | [a,b,c]=>.next (((env.set i (some a)).set j (some b)).set l (some c)) S
 | _=>.stuck
/-- xs+ys,a list that is changed later -/
def eCatM (ma mb:ME):ME:=fun env S=>(ma env S).bind fun a S=>(mb env S).bind fun b S=>match view0 S a,view0 S b with
 | .lst xs,.lst ys=>if xs.length+ys.length≤1000000 then .ok (.loc S.length) (S++[.lst (xs++ys)]) else .stuck
 | _,_=>.stuck
/-- a lambda's object,with defaults -/
abbrev fA (name qual:Str) (params:Arguments) (body:Expr) (scope:Scope) (cl:List (Str × Addr)) (pm cdv ct dV:Value):Obj:=
 { cls:=.type "function",data:=.func { PySem.W.kla_fn name qual params body scope cl pm cdv ct with defaults:=dV } }
section
variable {M:Model} {A:Around} {E:Value→Shared→Prop} {s:Shared} {name qual:Str} {params:Arguments} {body:Expr} {scope:Scope} {env:Env} {c P:Addr} {ps:Array Value} {pos:Pos} {firstLine:Nat} {mg:Str→Option Value}
 {clos:List (Str × Addr)} {Q:Value→Shared→Prop} {dV:Value}
/-- behind the closure's tuple -/
def uA (name qual:Str) (params:Arguments) (body:Expr) (scope:Scope) (env:Env) (clos:List (Str × Addr)) (dV:Value) (pos:Pos) (firstLine:Nat) (ctv:Value):Sem Value:=do
 let code ←functionCode env pos firstLine name qual params scope (.expr body)
 let bi ←builtinsFor mainGlobals env.builtins
 let pm ←nsGet mainGlobals "__name__"
 let doc ← (pure Value.none:Sem Value)
 newObj (.type "function") (.func { name:=name,qualname:=qual,params:=params,body:=.expr body,scope:=scope,globals:=mainGlobals,closure:=clos,defaults:=dV,kwdefaults:=.none,doc:=doc,pyModule:=pm.getD .none,annotations:=none,code:=code,closureTuple:=ctv,builtins:=bi })
/-- the tail of the making,the code object new -/
theorem uB (hcl:closureFor scope env=pure clos) (hge0:env.globals=mainGlobals) (hg:s.heap.Ns mainGlobals mg) (hcode:env.code=.ref c) (C:PySem.W.CodeHd s.heap c P) (hP:s.heap.get? P=some (PySem.W.tabObj ps)) (ht:TriplesOk ps.toList)
  (hnf:codeAmong pos ps.toList=none) (hgP:mainGlobals≠P) (hb:s.heap.BuiltinsAt mg P)
  (h:∀c' ctv h' tk,Heap.ExtBut P s.heap h'→s.heap.objs.size≤c'→c'<h'.objs.size→h'.CodeRec (.ref c') qual→h'.get? P=some (PySem.W.tabObj (ps++#[rawInt pos.line,rawInt pos.col,.ref c']))→
   Q (.ref h'.objs.size) { s with heap:=h'.push (fA name qual params body scope clos ((mg "__name__").getD .none) (.ref c') ctv dV),toks:=tk }) :
  wpAny M A (makeTail name qual params (.expr body) scope env dV .none none pos firstLine) Q E s:=by
 obtain ⟨bm,ob,e1,e2,_,e4,e5,e6,e7,e8⟩:=hb
 unfold makeTail
 rw[hcl,hge0]
 refine wpAny_bind (wpAny_pure ?_)
 have go:∀(ctv:Value) (h0:Heap),(∀b o,s.heap.get? b=some o→h0.get? b=some o)→s.heap.objs.size≤h0.objs.size→wpAny M A (uA name qual params body scope env clos dV pos firstLine ctv) Q E { s with heap:=h0 }:=by
  intro ctv h0 k0 sz0
  have hgP':h0.get? P=some (PySem.W.tabObj ps):=k0 _ _ hP
  refine wpAny_bind (wpAny_functionCodeX hcode ((C.keeps k0).code hgP' ht) ((C.keeps k0).tab hgP') hnf fun c' h' tk hx hge hlt _ hrec htb _=>?_)
  have hg':=(hg.keeps k0).extBut hx hgP
  have hx':Heap.ExtBut P s.heap h':=fun b o hb' e=>hx b o hb' (k0 b o e)
  refine wpAny_bind (wpAny_builtinsFor hg' e1 e2 (hx' _ _ e4 e5) e6 e7 e8 ?_)
  refine wpAny_bind (wpAny_nsGet hg' ?_)
  refine wpAny_bind (wpAny_pure ?_)
  exact wpAny_newObj_type (h c' ctv h' tk hx' (Nat.le_trans sz0 hge) hlt hrec htb.2) (by size_fits)
 cases clos with
 | nil=>
  simp only[List.isEmpty_nil,if_true]
  exact wpAny_bind (wpAny_pure (go .none s.heap (fun _ _ e=>e) (Nat.le_refl _)))
 | cons q r=>
  simp only[List.isEmpty_cons,Bool.false_eq_true,if_false]
  exact wpAny_bind (wpAny_newTextTuple (go _ _ (fun b o e=>Heap.get?_push_of_some _ e) (by rw[Heap.size_push]; omega)))
/-- .. the code object found -/
theorem mk_hit {cv:Value} (hcl:closureFor scope env=pure clos) (hge0:env.globals=mainGlobals) (hg:s.heap.Ns mainGlobals mg) (hcode:env.code=.ref c) (C:PySem.W.CodeHd s.heap c P) (hP:s.heap.get? P=some (PySem.W.tabObj ps)) (ht:TriplesOk ps.toList)
  (hf:codeAmong pos ps.toList=some cv) (hb:s.heap.BuiltinsAt mg P)
  (h:∀(ctv:Value) (h':Heap) (tk:Tok),(∀b o,s.heap.get? b=some o→h'.get? b=some o)→s.heap.objs.size≤h'.objs.size→
   Q (.ref h'.objs.size) { s with heap:=h'.push (fA name qual params body scope clos ((mg "__name__").getD .none) cv ctv dV),toks:=tk }) :
  wpAny M A (makeTail name qual params (.expr body) scope env dV .none none pos firstLine) Q E s:=by
 obtain ⟨bm,ob,e1,e2,_,e4,e5,e6,e7,e8⟩:=hb
 unfold makeTail
 rw[hcl,hge0]
 refine wpAny_bind (wpAny_pure ?_)
 have go:∀(ctv:Value) (h0:Heap),(∀b o,s.heap.get? b=some o→h0.get? b=some o)→s.heap.objs.size≤h0.objs.size→wpAny M A (uA name qual params body scope env clos dV pos firstLine ctv) Q E { s with heap:=h0 }:=by
  intro ctv h0 k0 sz0
  refine wpAny_bind (wpAny_functionCode_hit hcode ((C.keeps k0).code (k0 _ _ hP) ht) hf ?_)
  refine wpAny_bind (wpAny_builtinsFor (hg.keeps k0) e1 e2 (k0 _ _ e5) e6 e7 e8 ?_)
  refine wpAny_bind (wpAny_nsGet (hg.keeps k0) ?_)
  refine wpAny_bind (wpAny_pure ?_)
  exact wpAny_newObj_type (h ctv h0 s.toks k0 sz0) (by size_fits)
 cases clos with
 | nil=>
  simp only[List.isEmpty_nil,if_true]
  exact wpAny_bind (wpAny_pure (go .none s.heap (fun _ _ e=>e) (Nat.le_refl _)))
 | cons q r=>
  simp only[List.isEmpty_cons,Bool.false_eq_true,if_false]
  exact wpAny_bind (wpAny_newTextTuple (go _ _ (fun b o e=>Heap.get?_push_of_some _ e) (by rw[Heap.size_push]; omega)))
end
section
variable {M:Model} {A:Around} {E:Value→Shared→Prop} {s:Shared}
/-- a call without arguments of what has one parameter with a default -/
theorem rn {fd:FuncData} {a:Arg} {ds:List Expr} {T:Addr} {o:Obj} {u:Value} {n:Nat} {Q:List (Str × Value)→Shared→Prop} (hp:fd.params=⟨[],[a],none,[],[],none,ds⟩) (hT:fd.defaults=.ref T) (ho:s.heap.get? T=some o) (hd:o.data=.seq #[u] n) (h:Q [(a.arg,u)] s) :
  wpAny M A (bindArgs fd ⟨[],[]⟩) Q E s:=by
 unfold bindArgs
 rw[hp,hT]
 simp only[List.map_nil,List.map_cons,List.nil_append,List.length_cons,List.length_nil,List.zip_nil_right,List.forIn_nil,pure_bind]
 refine wpAny_bind (wpAny_seqItems ho hd ?_)
 simp
 exact wpAny_pure h
end
/-- what a lambda of X without parameters is; with one that has a default -/
def qw (X:Cx) (params:Arguments) (body:Expr) (scope:Scope):Value→Addr→Value→Value→Obj:=fun pm c' ctv _=>fA "<lambda>" (X.env.qual++"<lambda>") params body scope (cloFrom X.env.cells scope.names []) pm (.ref c') ctv .none
def qx (X:Cx) (params:Arguments) (body:Expr) (scope:Scope):Value→Addr→Value→Value→Obj:=fun pm c' ctv dv=>fA "<lambda>" (X.env.qual++"<lambda>") params body scope (cloFrom X.env.cells scope.names []) pm (.ref c') ctv dv
section
variable {X:Cx} {pins:List (Addr × Obj)} {σ:L2.St} {H:Hp} {s:Shared}
/-- the function object is laid,known from now on -/
theorem oE {T:List (Addr × Str)} {c P:Addr} {params:Arguments} {body:Expr} {scope:Scope} {pos:Pos} {dV:Value} {E:Value→Shared→Prop} {Q:Value→Shared→Prop} (I:Inv X pins σ H s) (TB:TabB X.base X.mg c P) (hcode:X.env.code=.ref c)
  (hm:(P,X.env.qual++"<lambda>")∈T) (hu:∀p∈T,p.1=P→p.2=X.env.qual++"<lambda>") (hT:Tabs T H) (hfree:∀y∈scope.names,y.2=.free→∃c,X.env.cells.lookup y.1=some c)
  (h:∀(f c':Addr) (pm ctv:Value) (H1:Hp) (s':Shared),Inv X pins σ H1 s'→ExtN H H1→Tabs T H1→H f=none→H1 f=some (mL f (fA "<lambda>" (X.env.qual++"<lambda>") params body scope (cloFrom X.env.cells scope.names []) pm (.ref c') ctv dV))→
   (H c'=none∨∃q,H c'=some (CodeO c' q))→H1 c'=some (CodeO c' (X.env.qual++"<lambda>"))→Q (.ref f) s') :
  wpAny (model X.prog X.w) X.A (makeTail "<lambda>" (X.env.qual++"<lambda>") params (.expr body) scope X.env dV .none none pos pos.line) Q E s:=by
 obtain ⟨ps,hP,ht,ha⟩:=hT _ hm
 have bP:s.heap.BuiltinsAt X.mg P:=TB.bm.keeps I.bk
 have hP':s.heap.get? P=some { cls:=.none,data:=.fields ps }:=I.hok P _ hP
 have lay:∀(c':Addr) (ctv:Value) (h':Heap) (tk:Nat) (H1:Hp),Inv X pins σ H1 { s with heap:=h',toks:=tk }→ExtN H H1→Tabs T H1→s.heap.objs.size≤h'.objs.size→(H c'=none∨∃q,H c'=some (CodeO c' q))→H1 c'=some (CodeO c' (X.env.qual++"<lambda>"))→
   Q (.ref h'.objs.size) { s with heap:=h'.push (fA "<lambda>" (X.env.qual++"<lambda>") params body scope (cloFrom X.env.cells scope.names []) ((X.mg "__name__").getD .none) (.ref c') ctv dV),toks:=tk }:=by
  intro c' ctv h' tk H1 I1 eN T1 hsz hc hco
  have hn:H1 h'.objs.size=none:=I1.hok.fresh (Nat.le_refl _)
  have I2:=I1.laid (t':=tk) (a:=h'.objs.size) (o:=mL h'.objs.size (fA "<lambda>" (X.env.qual++"<lambda>") params body scope (cloFrom X.env.cells scope.names []) ((X.mg "__name__").getD .none) (.ref c') ctv dV))
   (h':=h'.push (fA "<lambda>" (X.env.qual++"<lambda>") params body scope (cloFrom X.env.cells scope.names []) ((X.mg "__name__").getD .none) (.ref c') ctv dV)) (fun b u e=>Heap.get?_push_of_some _ e) (Nat.le_refl _)
   (by
    have e:(h'.push (fA "<lambda>" (X.env.qual++"<lambda>") params body scope (cloFrom X.env.cells scope.names []) ((X.mg "__name__").getD .none) (.ref c') ctv dV)).get? h'.objs.size=some (fA "<lambda>" (X.env.qual++"<lambda>") params body scope (cloFrom X.env.cells scope.names []) ((X.mg "__name__").getD .none) (.ref c') ctv dV):=Heap.get?_push_size _ rfl
    exact ⟨e,⟨_,e⟩,fun h1 h2 p k=>k _ p⟩)
  have up:∀b o,H1 b=some o→upd H1 h'.objs.size (mL h'.objs.size (fA "<lambda>" (X.env.qual++"<lambda>") params body scope (cloFrom X.env.cells scope.names []) ((X.mg "__name__").getD .none) (.ref c') ctv dV)) b=some o:=fun b o e=>by rw[upd_ne (ne_of_none e hn)]; exact e
  exact h _ c' _ ctv _ _ I2 (eN.trans (ExtN.of up)) (T1.ext up) (I.hok.fresh hsz) upd_same hc (up _ _ hco)
 cases hc:codeAmong pos ps.toList with
 | none=>
  refine uB (mg:=X.mg) (c:=c) (P:=P) (ps:=ps) (closure_ok hfree) I.ok.glob (I.mod.glob.keeps I.bk) hcode (TB.code.keeps I.bk) hP' ht hc TB.gP bP fun c' ctv h' tk hx hge hlt hrec htb=>?_
  obtain ⟨c2,oc,vs,t,e2,hoc,hd,hv⟩:=hrec
  cases e2
  have nC:H c'=none:=I.hok.fresh hge
  have I1:=inv_table (t':=tk) (more:=#[rawInt pos.line,rawInt pos.col,.ref c']) (h':=h') I hP (fun b o hb e=>hx b o hb e) htb hge ⟨oc,vs,t,hoc,hd,hv⟩
  have hE:ExtN H (upd (upd H P (.tbl (ps++#[rawInt pos.line,rawInt pos.col,.ref c']))) c' (CodeO c' (X.env.qual++"<lambda>"))):=fun b o e n=>by
   rw[upd_ne (ne_of_none e nC),upd_ne (fun z=>n ps (Option.some.inj (e.symm.trans (by rw[z]; exact hP))))]
   exact e
  have eL:(ps++#[rawInt pos.line,rawInt pos.col,.ref c']).toList=ps.toList++[rawInt pos.line,rawInt pos.col,.ref c']:=by simp
  refine lay c' ctv h' tk _ I1 hE (fun p hp=>?_) (Nat.le_trans hge (Nat.le_of_lt hlt)) (.inl nC) upd_same
  by_cases hb:p.1=P
  ·rw[hu p hp hb,hb]
   refine ⟨_,by rw[upd_ne (ne_of_none hP nC),upd_same],by rw[eL]; exact PySem.TriplesOk_snoc _ _ _ _ ht,fun p' cv hcv=>?_⟩
   rw[eL] at hcv
   rcases among_app _ ht hcv with z|z
   ·obtain ⟨c0,e1,e2⟩:=ha p' cv z
    exact ⟨c0,e1,hE _ _ e2 codeO_ne⟩
   ·exact ⟨c',z,upd_same⟩
  ·obtain ⟨ps',a1,a2,a3⟩:=hT p hp
   refine ⟨ps',by rw[upd_ne (ne_of_none a1 nC),upd_ne hb]; exact a1,a2,fun p' cv hcv=>?_⟩
   obtain ⟨c0,e1,e2⟩:=a3 p' cv hcv
   exact ⟨c0,e1,hE _ _ e2 codeO_ne⟩
 | some cv=>
  obtain ⟨c',e,hco⟩:=ha pos cv hc
  subst e
  refine mk_hit (mg:=X.mg) (c:=c) (P:=P) (ps:=ps) (closure_ok hfree) I.ok.glob (I.mod.glob.keeps I.bk) hcode (TB.code.keeps I.bk) hP' ht hc bP fun ctv h' tk hx hsz=>?_
  have I1:Inv X pins σ H { s with heap:=h',toks:=tk }:=I.kept hx
  exact lay c' ctv h' tk H I1 (ExtN.refl H) hT hsz (.inr ⟨_,hco⟩) hco
end
def jy (k:Nat) (b:Bool) (q:Str) (F:Value→Addr→Value→Value→Obj):ME:=fun _ S=>.ok (.clo k b q F) S
section
variable {X:Cx} {W:WX}
theorem vS {K:PySem.W.Frag} {mg:Str→Option Value} {μ:Mu} {H:Hp} {S:Sto} (rs:RelS K mg μ H S) {c c':Addr} {q:Str} (e:H c'=some (CodeO c q)):c'∉μ:=fun z=>by
 rcases z with z|z
 ·obtain ⟨l,hl,e2⟩:=List.getElem_of_mem z
  exact rs.ncode (l:=l) (by rw[List.getElem?_eq_getElem hl,e2]) e
 ·obtain ⟨u,h1,h2⟩:=rs.hid _ z
  rw[h1] at e
  exact h2.nc c q (Option.some.inj e)
/-- what was made,told -/
theorem oF {μ:Mu} {H H1:Hp} {S:Sto} {f c':Addr} {k:Nat} {q:Str} {F:Value→Addr→Value→Value→Obj} {pm ctv dv:Value} (rs:RelS X.K X.mg μ H S) (eN:ExtN H H1) (T1:Tabs (tbs X.K) H1) (hf:H f=none) (h1:H1 f=some (mL f (F pm c' ctv dv)))
  (hc:H c'=none∨∃q,H c'=some (CodeO c' q)) (h2:H1 c'=some (CodeO c' q)) {b:Bool} (hd:DfO b H1 μ dv):Step μ H μ H1∧RelS X.K X.mg μ H1 S∧Rep X.K X.mg μ H1 (.clo k b q F) (.ref f):=by
 obtain ⟨st,rs1⟩:=lz rs eN T1
 refine ⟨st,rs1,?_⟩
 unfold Rep
 refine ⟨f,c',pm,ctv,dv,rfl,⟨h1,rs.fresh hf⟩,⟨h2,?_⟩,hd⟩
 rcases hc with hc|⟨_,hc⟩
 ·exact rs.fresh hc
 ·exact vS rs hc
/-- a lambda without parameters,as a value -/
theorem vT {p:Str × Option Str} {params:Arguments} {body:Expr} {scope:Scope} {pos:Pos} {k:Nat} {q:Str} {F:Value→Addr→Value→Value→Obj} (lh:LamHere X p) (L:LamS X.env.scope scope) (hq:q=X.env.qual++"<lambda>") (hF:F=qw X params body scope)
  (hdef:defaultsOf params X.env=([],[]):=by rfl) (hpar:params.kwonlyargs=[]:=by rfl):PE X (.Lambda params body scope pos) (tE X W (jy k false q F)):=by
 subst hq hF
 refine ⟨fun pins s σ H Q I h=>?_⟩
 obtain ⟨env,S,μ,rl,o⟩:=h
 rw[arm_eval_Lambda,hdef]
 show wpAny _ _ (do let dv ←evalAll []; let kdv ←holding dv (evalAllOpt []); makeFunction "<lambda>" (X.env.qual++"<lambda>") params (.expr body) scope X.env dv kdv [] pos pos.line) _ _ s
 refine wpAny_bind (wpAny_pure (wpAny_bind (wpAny_holding (wpAny_pure ?_))))
 rw[makeFunction_eq]
 simp only[List.zip_nil_right,List.filterMap_nil,List.isEmpty_nil,if_true,pure_bind]
 refine oE I lh.tb lh.code lh.mem lh.uniq rl.sto.tab (L.has I.ok) fun f c' pm ctv H1 s' I1 eN T1 hf h1 hc h2=>?_
 obtain ⟨st,rs1,r⟩:=oF (k:=k) (F:=qw X params body scope) (dv:=.none) (b:=false) rl.sto eN T1 hf h1 hc h2 nofun
 exact ⟨.ref f,H1,I1,rfl,o μ H1 (.ref f) st rs1 r⟩
/-- a lambda with one parameter that has the default 0 -/
theorem io {p:Str × Option Str} {params:Arguments} {body:Expr} {scope:Scope} {x:Str} {pos:Pos} {k:Nat} {q:Str} {F:Value→Addr→Value→Value→Obj} {j:Nat} {pz:Pos} (lh:LamHere X p) (L:LamS1 X.env.scope scope x) (hq:q=X.env.qual++"<lambda>") (hF:F=qx X params body scope)
  (hdef:defaultsOf params X.env=([eval (.Constant (.int 0) j pz) X.env],[]):=by rfl) (hpar:params.kwonlyargs=[]:=by rfl):PE X (.Lambda params body scope pos) (tE X W (jy k true q F)):=by
 subst hq hF
 refine ⟨fun pins s σ H Q I h=>?_⟩
 obtain ⟨env,S,μ,rl,o⟩:=h
 rw[arm_eval_Lambda,hdef]
 show wpAny _ _ (do let dv ←evalAll [eval (.Constant (.int 0) j pz) X.env]; let kdv ←holding dv (evalAllOpt []); makeFunction "<lambda>" (X.env.qual++"<lambda>") params (.expr body) scope X.env dv kdv [] pos pos.line) _ _ s
 refine wpAny_bind ?_
 show wpAny _ _ (do let v ←eval (.Constant (.int 0) j pz) X.env; return v::(←holding [v] (evalAll []))) _ _ s
 refine wpAny_bind (wpAny_Constant_int ?_)
 refine wpAny_bind (wpAny_holding (wpAny_pure (wpAny_pure ?_)))
 refine wpAny_bind (wpAny_holding (wpAny_pure ?_))
 rw[makeFunction_eq]
 simp only[List.zip_nil_right,List.filterMap_nil,List.isEmpty_nil,List.isEmpty_cons,if_true,pure_bind,Bool.false_eq_true,if_false]
 refine wpAny_bind (wpAny_newTextTuple ?_)
 have I0:=I.tok (s.toks+1)
 have hn:H s.heap.objs.size=none:=I.hok.fresh (Nat.le_refl _)
 have I1:=I0.laid (t':=s.toks+1) (a:=s.heap.objs.size) (o:=.tup [.int 0]) (h':=s.heap.push { cls:=.type "tuple",data:=.seq #[Value.int 0 s.toks] }) (fun b u e=>Heap.get?_push_of_some _ e) (Nat.le_refl _) ⟨by rw[sizeLine_eq]; decide,[Value.int 0 s.toks],.cons ⟨_,rfl⟩ .nil,⟨_,Heap.get?_push_size _ rfl,rfl,_,rfl⟩⟩
 have up:Sm H (upd H s.heap.objs.size (.tup [.int 0])):=Sm.upd hn
 have rs0:=rl.sto.sm up
 refine oE (dV:=.ref s.heap.objs.size) I1 lh.tb lh.code lh.mem lh.uniq rs0.tab (L.has I.ok) fun f c' pm ctv H1 s' I2 eN T1 hf h1 hc h2=>?_
 have nT:s.heap.objs.size∉μ:=rl.sto.fresh hn
 obtain ⟨st,rs1,r⟩:=oF (k:=k) (F:=qx X params body scope) (dv:=.ref s.heap.objs.size) (b:=true) rs0 eN T1 hf h1 hc h2 (fun _=>⟨_,rfl,eN _ _ upd_same (fun _ z=>nomatch z),nT⟩)
 exact ⟨.ref f,H1,I2,rfl,o μ H1 (.ref f) ((Step.of_sm up).trans st) rs1 r⟩
end
section
variable {X:Cx}
/-- what a call of such a lambda does,from any frames above the one that made it -/
def pw (X:Cx) (k:Nat) (b:Bool) (F:Value→Addr→Value→Value→Obj) (m:ME):Prop:=
 ∀ {pins:List (Addr × Obj)} {σ:L2.St} {H HZ:Hp} {s s1:Shared} {A:Around} {outer:List Env} {E:XK} {Q:VK} {μ:Mu} {f c':Addr} {pm ctv dv:Value},Inv X pins σ H s→Env0 X.prog X.w X.K X.mg X.base A outer s1 HZ→Un (frs X.stack) [] H HZ s.heap s1.heap→
  HZ f=some (mL f (F pm c' ctv dv))→HZ c'=some (CodeO c' (X.env.qual++"<lambda>"))→DfO b HZ μ dv→Room (k+1) A→tE X (fun c d _ H=>E c d H) m σ HZ Q→
  codeAny (model X.prog X.w) A (.call (.ref f) ⟨[],[]⟩) (CR (L2.CX X.prog X.w) outer X.prog X.w HZ s1 Q E) s1
theorem uC {k:Nat} {params:Arguments} {body:Expr} {scope:Scope} {m:ME} (L:LamS X.env.scope scope) (hbind:∀(q:Str) (cl:List (Str × Addr)) (pm cv ctv:Value),bindArgs (PySem.W.kla_fn "<lambda>" q params body scope cl pm cv ctv) ⟨[],[]⟩=pure [])
  (hbody:∀(A:Around) (outer:List Env) (s:Shared) (H:Hp) (E:XK) (f c':Addr),Room k (lamCx X A outer s H E scope f c').A→∀W,Takes (lamCx X A outer s H E scope f c') W→PE (lamCx X A outer s H E scope f c') body (tE (lamCx X A outer s H E scope f c') W m)) :
  pw X k false (qw X params body scope) m:=by
 intro pins σ H HZ s s1 A outer E Q μ f c' pm ctv dv I e0 un hf hco _ hr ht
 have of1:=(e0.hok f _ hf).1
 obtain ⟨⟨oc,vs,t,hoc,hdc,hvc⟩,_,_⟩:=e0.hok c' _ hco
 refine PySem.W.kla_callFunE hr.depth of1 rfl L.co L.gen rfl ⟨c',oc,vs,t,rfl,hoc,hdc,hvc⟩ ?_
 have hb:=hbind (X.env.qual++"<lambda>") (cloFrom X.env.cells scope.names []) pm (.ref c') ctv
 show wpAny _ _ (bindArgs (PySem.W.kla_fn "<lambda>" (X.env.qual++"<lambda>") params body scope (cloFrom X.env.cells scope.names []) pm (.ref c') ctv) ⟨[],[]⟩) _ _ s1
 rw[hb]
 have lim:s1.heap.NoLimit:=e0.mod.nolimit.keeps fun b o e=>(e0.bs b o e).1
 refine wpAny_pure (wpAny_newFunctionEnv (fun y hy=>(L.own y hy).2) (fun y hy=>absurd hy zqS) (fun h₁ hns hsb=>⟨lim.fresh _ hsb,?_⟩) L.kind)
 show codeAny _ _ (.expr body (lamEnv X scope s1.heap.objs.size f c')) _ _
 have kp:∀b o,s1.heap.get? b=some o→h₁.get? b=some o:=fun b o e=>hsb.extBut b o (Nat.ne_of_lt (Heap.lt_size e)) (Heap.get?_push_of_some _ e)
 have J:Inv (lamCx X A outer s1 HZ E scope f c') [] σ HZ { s1 with heap:=h₁,toks:=s1.toks+([]:List (Str × Value)).length }:=lam_start2 I L e0 hr.hd un hns kp
 refine PySem.W.kla_codeExpr (wpAny_mono ((hbody A outer s1 HZ E f c' (hr.deeper _) (fun c d _ H=>E c d H) (kY (L2.takes_of rfl rfl rfl rfl))).run [] _ _ HZ Q J ht) (fun v s' hq=>?_) fun e s' hq=>hq)
 obtain ⟨w',H',J',rv,q⟩:=hq
 exact ⟨w',H',J'.os,J'.bare,J'.base,J'.hok,rv,q⟩
theorem uD {k i:Nat} {a:Arg} {ds:List Expr} {params:Arguments} {body:Expr} {scope:Scope} {m:ME} (L:LamS1 X.env.scope scope a.arg) (hp:params=⟨[],[a],none,[],[],none,ds⟩) (nd:X.N.Nodup) (hi:X.N[i]?=some a.arg)
  (hbody:∀(A:Around) (outer:List Env) (s:Shared) (H:Hp) (E:XK) (f c':Addr),Room k (lamCx X A outer s H E scope f c').A→∀W,Takes (lamCx X A outer s H E scope f c') W→PE (lamCx X A outer s H E scope f c') body (tE (lamCx X A outer s H E scope f c') W m)) :
  pw X k true (qx X params body scope) (fun env S=>m (env.set i (some (.int 0))) S):=by
 intro pins σ H HZ s s1 A outer E Q μ f c' pm ctv dv I e0 un hf hco hd hr ht
 have of1:=(e0.hok f _ hf).1
 obtain ⟨⟨oc,vs,t,hoc,hdc,hvc⟩,_,_⟩:=e0.hok c' _ hco
 refine PySem.W.kla_callFunE hr.depth of1 rfl L.co L.gen rfl ⟨c',oc,vs,t,rfl,hoc,hdc,hvc⟩ ?_
 have lim:s1.heap.NoLimit:=e0.mod.nolimit.keeps fun b o e=>(e0.bs b o e).1
 have go:∀u,L2.RelV (.int 0) u→wpAny (model X.prog X.w) A.in1 (newFunctionEnv scope mainGlobals (cloFrom X.env.cells scope.names []) [(a.arg,u)] (X.env.qual++"<lambda>"++".<locals>.") (some f) (.ref c') none builtinsNs)
   (fun env s₂=>s₂.heap.NoLimit∧codeAny (model X.prog X.w) A (.expr body env) (CR (L2.CX X.prog X.w) outer X.prog X.w HZ s1 Q E) s₂) (fun e s'=>CR (L2.CX X.prog X.w) outer X.prog X.w HZ s1 Q E (.error e) s') s1:=fun u ru=>by
  refine wpAny_newFunctionEnv (fun y hy=>L.nocell y hy) (fun y hy=>by rw[List.mem_singleton.mp hy]; exact L.par) (fun h₁ hns hsb=>⟨lim.fresh _ hsb,?_⟩) L.kind
  show codeAny _ _ (.expr body (lamEnv X scope s1.heap.objs.size f c')) _ _
  have kp:∀b o,s1.heap.get? b=some o→h₁.get? b=some o:=fun b o e=>hsb.extBut b o (Nat.ne_of_lt (Heap.lt_size e)) (Heap.get?_push_of_some _ e)
  have J:Inv (lamCx X A outer s1 HZ E scope f c') [] (σ.set i (some (.int 0))) HZ { s1 with heap:=h₁,toks:=s1.toks+([(a.arg,u)]:List (Str × Value)).length }:=pq I L nd hi ru e0 hr.hd un hns kp
  have ht2:tE (lamCx X A outer s1 HZ E scope f c') (fun c d _ H=>E c d H) m (σ.set i (some (.int 0))) HZ Q:=by
   obtain ⟨env,S,μ1,rl,o⟩:=ht
   exact ⟨env.set i (some (.int 0)),S,μ1,⟨rl.env.set (bK 0),rl.sto⟩,o⟩
  refine PySem.W.kla_codeExpr (wpAny_mono ((hbody A outer s1 HZ E f c' (hr.deeper _) (fun c d _ H=>E c d H) (kY (L2.takes_of rfl rfl rfl rfl))).run [] _ _ HZ Q J ht2) (fun v s' hq=>?_) fun e s' hq=>hq)
  obtain ⟨w',H',J',rv,q⟩:=hq
  exact ⟨w',H',J'.os,J'.bare,J'.base,J'.hok,rv,q⟩
 obtain ⟨T,rfl,hT,_⟩:=hd rfl
 obtain ⟨_,its,rv,o,ho,hc,n,hdt⟩:=e0.hok T _ hT
 obtain ⟨u,rfl,ru⟩:=vals1 rv
 exact rn hp rfl ho hdt (go u ru)
end
theorem ko {K:PySem.W.Frag} {mg:Str→Option Value} {μ:Mu} {H:Hp} {σ:L2.St}:∀(vs:List Nat) {env:En},RelE K mg μ H env σ→RelE K mg μ H (aa env vs) σ
 | [],_,r=>r
 | i::vs,env,r=>by
  have q:=ko vs r
  refine ⟨by show ((aa env vs).set i none).length=_; rw[List.length_set]; exact q.len,fun j d e=>?_⟩
  have e:((aa env vs).set i none)[j]?=some (some d):=e
  by_cases hj:j=i
  ·subst hj
   rw[List.getElem?_set] at e
   simp only[if_true] at e
   split at e<;>cases e
  ·rw[List.getElem?_set_ne (Ne.symm hj)] at e
   exact q.at_ j d e
/-- the lambdas of a frame: with a default or not,the name,the object,what it does -/
abbrev fu:=List (Bool × Str × (Value→Addr→Value→Value→Obj) × ME)
open Classical in
noncomputable def eI (hd:Hdr) (j:Nat) (fg:List Nat) (tab:fu):ME:=fun env S=>match env[j]? with
 | some (some (.clo k b q F))=>match tab[k]? with
  | some (b',q',F',m)=>if b=b'∧q=q'∧F=F' then fY hd (m (aa env fg) S) else .stuck
  | none=>.stuck
 | _=>.stuck
/-- one of them is right -/
structure kq (X:Cx) (k:Nat) (e:Bool × Str × (Value→Addr→Value→Value→Obj) × ME):Prop where
 nm:e.2.1=X.env.qual++"<lambda>"
 fn:∀pm c' ctv dv,∃fd,e.2.2.1 pm c' ctv dv={ cls:=.type "function",data:=.func fd }
 run:pw X k e.1 e.2.2.1 e.2.2.2
section
variable {X:Cx} {W:WX}
theorem qCl0 {k:Nat} {params:Arguments} {body:Expr} {scope:Scope} {m:ME} (L:LamS X.env.scope scope)
  (hbody:∀(A:Around) (outer:List Env) (s:Shared) (H:Hp) (E:XK) (f c':Addr),Room k (lamCx X A outer s H E scope f c').A→∀W,Takes (lamCx X A outer s H E scope f c') W→PE (lamCx X A outer s H E scope f c') body (tE (lamCx X A outer s H E scope f c') W m))
  (hbind:∀(q:Str) (cl:List (Str × Addr)) (pm cv ctv:Value),bindArgs (PySem.W.kla_fn "<lambda>" q params body scope cl pm cv ctv) ⟨[],[]⟩=pure []:=by intros; rfl):kq X k (false,X.env.qual++"<lambda>",qw X params body scope,m):=
 ⟨rfl,fun _ _ _ _=>⟨_,rfl⟩,uC L hbind hbody⟩
theorem qCl1 {k i:Nat} {a:Arg} {ds:List Expr} {body:Expr} {scope:Scope} {m:ME} (L:LamS1 X.env.scope scope a.arg) (nd:X.N.Nodup) (hi:X.N[i]?=some a.arg)
  (hbody:∀(A:Around) (outer:List Env) (s:Shared) (H:Hp) (E:XK) (f c':Addr),Room k (lamCx X A outer s H E scope f c').A→∀W,Takes (lamCx X A outer s H E scope f c') W→PE (lamCx X A outer s H E scope f c') body (tE (lamCx X A outer s H E scope f c') W m)) :
  kq X k (true,X.env.qual++"<lambda>",qx X ⟨[],[a],none,[],[],none,ds⟩ body scope,fun env S=>m (env.set i (some (.int 0))) S):=
 ⟨rfl,fun _ _ _ _=>⟨_,rfl⟩,uD L rfl nd hi hbody⟩
end
section
variable {X:Cx}
/-- a comprehension's block whose element may lean on the frame below,which stands as it stood -/
theorem vU {pins:List (Addr × Obj)} {s:Shared} {σ:L2.St} {H:Hp} {Q:VK} {elt tg iter:Expr} {scope:Scope} {own:List (Str × Nat)} {pos pos':Pos} {wi:L2.TI} {g:TG} {tt:L2.TT} {te:TE} {use:Option (Value→Sem Unit)} {Qf:Value→Shared→Prop}
  (hc:X.calm=true) (hN:X.N.Nodup) (I:Inv X pins σ H s) (hi:PI X tg iter wi) (ok:BlkOk X.N X.env.scope scope own)
  (hg:∀(s:Shared) (H:Hp) (C:Addr) (cl:List (Str × Addr)) (fp:List Addr),PG (X.blk s H scope (compEnvC scope cl C X.env) fp) tg g)
  (ht:∀(s:Shared) (H:Hp) (C:Addr) (cl:List (Str × Addr)) (fp:List Addr),PTs (X.blk s H scope (compEnvC scope cl C X.env) fp) [] tt)
  (he:∀(s:Shared) (H:Hp) (C:Addr) (cl:List (Str × Addr)) (fp:List Addr) (pY:List (Addr × Obj)) (sY:Shared) (σY:L2.St) (HY:Hp) (QY:VK),Inv (X.blk s H scope (compEnvC scope cl C X.env) fp) pY σY HY sY→
   (∀(H':Hp) (s':Shared) (p':List (Addr × Obj)) (σ':L2.St),Inv (X.blk s H scope (compEnvC scope cl C X.env) fp) p' σ' H' s'→Inv X pins σ H' s')→L2.wipe σY (own.map (·.2))=L2.wipe σ (own.map (·.2))→te σY HY QY→
   wpAny (model X.prog X.w) X.A (eval elt (compEnvC scope cl C X.env)) (EP (X.blk s H scope (compEnvC scope cl C X.env) fp) pY σY QY) (fun _ _=>False) sY)
  (hs:∀x,foldedSetIterable iter X.env x=pure x) (h:tLc wi g tt te (own.map (·.2)) σ H Q)
  (hRR:∀D C s' m H',Inv X pins σ H' s'→Q (.ref D) H'→s'.heap.Ns C m→FpOk X pins H' C→compPost (model X.prog X.w) X.A X.xe use Qf (.ref D) C (.ok .next) s') :
  wpAny (model X.prog X.w) X.A (comprehension (.ListComp elt [⟨tg,iter,[],0⟩] scope pos) scope X.env pos' (newList []) false (eval iter X.env) use) Qf X.xe s:=by
 refine wpAny_comprehension_free (use:=use) rfl hs (closure_ok fun y hy e=>(ok.free y hy e).elim (fun k=>I.ok.has _ (.inl k)) fun k=>I.ok.has _ (.inr k)) ok.kind (fun y hy e=>by rw[ok.uniq y hy,e])
  (thn (hi.run pins s σ H _ I h) fun xv s1 hx=>thn hx fun itv s2 ⟨it,fp,tn,J,H2,e,I2,T,st2,f2,q⟩=>?_)
 subst e
 refine wpAny_newObj_type (newEnv_comp ?_) (by show 0≤sizeLine; decide)
 obtain ⟨D,hD⟩:∃D,D=s2.heap.objs.size:=⟨_,rfl⟩
 rw[←hD]
 obtain ⟨W,⟨m0,w0⟩,turn⟩:=q D (I2.hok.fresh (Nat.le_of_eq hD.symm))
 obtain ⟨s3,hs3⟩:∃s3:Shared,s3={ s2 with heap:=s2.heap.push { cls:=.type "list",data:=.seq ([]:List Value).toArray } }:=⟨_,rfl⟩
 obtain ⟨H3,hH3⟩:∃H3,H3=upd H2 D (.lst []):=⟨_,rfl⟩
 have h3:s3.heap=s2.heap.push { cls:=.type "list",data:=.seq ([]:List Value).toArray }:=by rw[hs3]
 have I3:Inv X pins σ H3 s3:=by
  rw[hs3,hH3]
  refine I2.laid (t':=s2.toks) (fun b o e=>Heap.get?_push_of_some _ e) (Nat.le_of_eq hD.symm) ⟨Nat.zero_le _,[],0,.nil,?_⟩
  rw[hD]
  exact Heap.get?_push_size _ rfl
 have f3:∀b∈fp,FpOk X pins H3 b∧b<s3.heap.objs.size:=fun b hb=>by
  obtain ⟨o,e,_⟩:=T.obj _ _ st2 b hb
  have hlt:=Heap.lt_size e
  refine ⟨⟨?_,(f2 b hb).2⟩,by rw[h3,Heap.size_push]; exact Nat.lt_succ_of_lt hlt⟩
  rw[hH3,upd_ne (by rw[hD]; exact Nat.ne_of_lt hlt)]
  exact (f2 b hb).1
 have I4:=block_start I3 ok hN f3
 have pg:=hg s3 H3 s3.heap.objs.size (cellsFrom (s3.heap.objs.size+1) scope.names (cloFrom X.env.cells scope.names [])) fp
 have pt:=ht s3 H3 s3.heap.objs.size (cellsFrom (s3.heap.objs.size+1) scope.names (cloFrom X.env.cells scope.names [])) fp
 have pe:=he s3 H3 s3.heap.objs.size (cellsFrom (s3.heap.objs.size+1) scope.names (cloFrom X.env.cells scope.names [])) fp
 rw[←hs3]
 show codeAny _ _ (.compStart (.ListComp elt [⟨tg,iter,[],0⟩] scope pos) 0 (.ref it) (.ref D) (compEnvC scope (cellsFrom (s3.heap.objs.size+1) scope.names (cloFrom X.env.cells scope.names [])) s3.heap.objs.size X.env)) (compPost (model X.prog X.w) X.A X.xe use Qf (.ref D) s3.heap.objs.size) { s3 with heap:=pushCells (s3.heap.push { cls:=.type "dict",data:=.dict #[] }) scope.names }
 obtain ⟨ce,hce⟩:∃ce,ce=compEnvC scope (cellsFrom (s3.heap.objs.size+1) scope.names (cloFrom X.env.cells scope.names [])) s3.heap.objs.size X.env:=⟨_,rfl⟩
 rw[←hce] at I4 pg pt pe ⊢
 obtain ⟨s4,hs4⟩:∃s4:Shared,s4={ s3 with heap:=pushCells (s3.heap.push { cls:=.type "dict",data:=.dict #[] }) scope.names }:=⟨_,rfl⟩
 rw[←hs4] at I4 ⊢
 have kp4:∀b o,s2.heap.get? b=some o→s4.heap.get? b=some o:=fun b o e=>by
  rw[hs4]
  refine pushCells_keeps _ _ _ _ (Heap.get?_push_of_some _ ?_)
  rw[h3]
  exact Heap.get?_push_of_some _ e
 have st4:tn 0 s4.heap:=T.keep _ _ _ st2 fun b _ o e=>kp4 b o e
 have stat:∀ {σ':L2.St} {H':Hp} {s':Shared},Inv (X.blk s3 H3 scope ce fp) [] σ' H' s'→(∀b∈fp,H' b=none)→∀b∈fp,FpOk (X.blk s3 H3 scope ce fp) [] H' b:=fun {σ' H' s'} I' hn b hb=>
  ⟨hn b hb,(I'.ok.exf b hb).1,I'.ok.exfs b hb,.inl hb,fun x c e=>(I'.ok.exf b hb).2 x c e,fun p hp=>absurd (show p∈([]:List (Addr × Obj))++[] from hp) zqS⟩
 have back:∀(H':Hp) (s':Shared) (p':List (Addr × Obj)) (σ':L2.St),Inv (X.blk s3 H3 scope ce fp) p' σ' H' s'→Inv X pins σ H' s':=fun H' s' p' σ' I'=>
  I3.call' (ch:=fp) I'.os I'.base I'.hok I'.bare fun b hb=>⟨(f3 b hb).1.2.2.2.1,(f3 b hb).1.2.1,(f3 b hb).1.2.2.2.2.1,(f3 b hb).1.2.2.2.2.2⟩
 have n3:∀b∈fp,H3 b=none:=fun b hb=>(f3 b hb).1.1
 have loop:codeAny (model X.prog X.w) X.A (.compLoop (.ListComp elt [⟨tg,iter,[],0⟩] scope pos) 0 (.ref it) (.ref D) ce) (compPost (model X.prog X.w) X.A X.xe use Qf (.ref D) s3.heap.objs.size) s4:=by
  refine compLoop_any (fun n s'=>∃i H',Inv (X.blk s3 H3 scope ce fp) [] (L2.wipe σ (own.map (·.2))) H' s'∧tn i s'.heap∧(∀b∈fp,H' b=none)∧W i n H') ?_ m0 ⟨0,H3,I4,st4,n3,by rw[hH3]; exact w0⟩
  rintro n s5 ⟨i,H5,I5,st5,n5,w5⟩
  rcases turn i n H5 w5 with ⟨stop,qq⟩|⟨go,Nx,hNx,step⟩
  ·refine thnF (T.done (X.blk s3 H3 scope ce fp) rfl rfl rfl hc i [] s5 _ H5 (fun _ _=>False) I5 (stat I5 n5) st5 stop) fun r s6 ⟨hr,I6⟩=>?_
   subst hr
   have z:H5 ce.locals=none:=I6.free
   obtain ⟨m,hn,_⟩:=I6.loc
   have hn:s6.heap.Ns ce.locals m:=hn
   have cL:ce.locals=s3.heap.objs.size:=by rw[hce]; rfl
   rw[cL] at z hn
   exact hRR D s3.heap.objs.size s6 m H5 (back _ _ _ _ I6) qq hn (I3.fpOk (Nat.le_refl _) z)
  ·refine thnF (T.item (X.blk s3 H3 scope ce fp) rfl rfl rfl hc i [] s5 _ H5 (fun _ _=>False) I5 (stat I5 n5) st5 go) fun r s6 ⟨u,hr,h6⟩=>?_
   subst hr
   refine thnF h6 fun _ s7 ⟨x,H7,I7,r7,y7,st7,n7⟩=>?_
   refine thnF (pg.run _ s7 _ H7 x u _ (I7.pinned (stat I7 n7) (T.obj _ _ st7)) r7 (step x H7 y7)) fun _ s8 ⟨σ8,H8,I8,hw8,q8⟩=>?_
   refine thnF (pt.run _ s8 σ8 H8 _ I8 q8) fun b s9 ⟨H9,I9,q9⟩=>?_
   have fin:∀ {s':Shared} {H':Hp},Inv (X.blk s3 H3 scope ce fp) ([]++pinsAt fp s7.heap) σ8 H' s'→Nx H'→∃m,m<n∧∃i H',Inv (X.blk s3 H3 scope ce fp) [] (L2.wipe σ (own.map (·.2))) H' s'∧tn i s'.heap∧(∀b∈fp,H' b=none)∧W i m H':=fun {s' H'} I' nx=>by
    obtain ⟨m',hm,w'⟩:=hNx H' nx
    have pin':∀b∈fp,∀o,s7.heap.get? b=some o→s'.heap.get? b=some o∧H' b=none:=fun b hb o e=>
     let z:=I'.pin (b,o) (List.mem_append_right _ (List.mem_append_right _ (mem_pinsAt hb e)))
     ⟨z.1,z.2.1⟩
    refine ⟨m',hm,i+1,H',(I'.unpinned (pins:=[])).weak (by rw[←hw8,L2.wipe_length]) (fun j v e=>?_),T.keep _ _ _ st7 fun b hb o e=>(pin' b hb o e).1,fun b hb=>?_,w'⟩
    ·rw[←hw8] at e
     exact (wipe_some e).1
    ·obtain ⟨o,e,_⟩:=T.obj _ _ st7 b hb
     exact (pin' b hb o e).2
   cases b with
   | false=>
    simp only[Bool.false_eq_true,if_false] at q9 ⊢
    exact fin I9 q9
   | true=>
    simp only[if_true] at q9 ⊢
    refine thnF (pe _ s9 σ8 H9 _ I9 back hw8 q9) fun z s10 ⟨yv,H10,I10,r10,acc,hD10,hz10,nx⟩=>?_
    exact app_ok (X:=X.blk s3 H3 scope ce fp) I10 hD10 hz10 r10 fun s11 I11=>fin I11 nx
 exact codeAny_compStart_list loop (T.self X.A 0 _ _ _ st4 loop)
/-- the outer frame's reading of what the block read -/
theorem rp {K:PySem.W.Frag} {mg:Str→Option Value} {μ:Mu} {H:Hp} {env:En} {σ σY:L2.St} {vs fg:List Nat} (r:RelE K mg μ H env σY) (hw:L2.wipe σY vs=L2.wipe σ vs) (hv:∀v∈vs,v∈fg):RelE K mg μ H (aa env fg) σ:=by
 have hl:σY.length=σ.length:=by rw[←L2.wipe_length σY vs,hw,L2.wipe_length]
 refine ⟨by rw[dL,r.len,hl],fun i d e=>?_⟩
 obtain ⟨e1,n1⟩:=iQ e
 obtain ⟨v,e2,r2⟩:=r.at_ i d e1
 have nv:i∉vs:=fun z=>n1 (hv i z)
 refine ⟨v,?_,r2⟩
 rw[←L2.wipe_out (σ:=σ) nv,←hw,L2.wipe_out nv]
 exact e2
end
theorem jQ (env:En):∀(vs:List Nat) (t:Nat),(aa env vs)[t]?=if t∈vs then env[t]?.map (fun _=>none) else env[t]?
 | [],t=>by simp[aa]
 | v::vs,t=>by
  unfold aa
  rw[List.getElem?_set,jQ env vs t,dL]
  by_cases hv:v=t
  ·subst hv
   by_cases hl:v<env.length
   ·simp[hl]
   ·simp[hl]
  ·have:¬t=v:=fun z=>hv z.symm
   simp[hv,this]
theorem jR {env:En} {v:Option D} {a:Nat} {fg:List Nat} (h:a∈fg):aa (env.set a v) fg=aa env fg:=by
 apply List.ext_getElem?
 intro t
 rw[jQ,jQ,List.getElem?_set]
 by_cases ht:t∈fg
 ·rw[if_pos ht,if_pos ht]
  by_cases ha:a=t
  ·subst ha
   by_cases hl:a<env.length
   ·simp[hl]
   ·simp[hl]
  ·simp[ha]
 ·rw[if_neg ht,if_neg ht]
  have:a≠t:=fun z=>ht (z▸h)
  simp[this]
theorem p0 {env:En} {vs fg:List Nat} (h:∀v∈vs,v∈fg):aa (aa env vs) fg=aa env fg:=by
 induction vs with
 | nil=>rfl
 | cons v vs ih=>
  show aa ((aa env vs).set v none) fg=_
  rw[jR (h v List.mem_cons_self),ih fun u hu=>h u (List.mem_cons_of_mem _ hu)]
/-- what they tell,one by one -/
def fv (hd:Hdr) (e:En):List ME→List D→Sto→Res (List D)
 | [],acc,S=>.ok acc S
 | m::ms,acc,S=>(fY hd (m e S)).bindS fun v S3=>if acc.length<1000000 then fv hd e ms (acc++[v]) S3 else .stuck
def dW (hd:Hdr) (fg:List Nat) (ms:List ME):ME:=fun env S=>(fv hd (aa env fg) ms [] S).bind fun ds S=>.ok (.lst ds) S
/-- the lambdas as values -/
def oG:Nat→fu→List D
 | _,[]=>[]
 | k,e::es=>.clo k e.1 e.2.1 e.2.2.1::oG (k+1) es
theorem l6 {hd:Hdr} {j:Nat} {fg:List Nat} {tab:fu} (hj:j∈fg):∀(post pre:fu) (w:En) (acc:List D) (S:Sto),tab=pre++post→j<w.length→
  dM (gV j) b5 (eI hd j fg tab) w (oG pre.length post) acc S=fv hd (aa w fg) (post.map (·.2.2.2)) acc S
 | [],pre,w,acc,S,_,_=>rfl
 | e::post,pre,w,acc,S,ht,hl=>by
  show (iG (gV j) b5 (eI hd j fg tab) w (.clo pre.length e.1 e.2.1 e.2.2.1) acc S).bindS _=_
  have e1:eI hd j fg tab (w.set j (some (.clo pre.length e.1 e.2.1 e.2.2.1))) S=fY hd (e.2.2.2 (aa w fg) S):=by
   unfold eI
   rw[List.getElem?_set_self hl]
   have:tab[pre.length]?=some e:=by rw[ht,List.getElem?_append_right (Nat.le_refl _),Nat.sub_self]; rfl
   simp[this,jR hj]
  have e2:iG (gV j) b5 (eI hd j fg tab) w (.clo pre.length e.1 e.2.1 e.2.2.1) acc S=(fY hd (e.2.2.2 (aa w fg) S)).bindS fun v S3=>if acc.length<1000000 then .ok (acc++[v]) S3 else .stuck:=by
   unfold iG
   simp only[gV_at,tq]
   show (if true=true then (eI hd j fg tab (w.set j (some (.clo pre.length e.1 e.2.1 e.2.2.1))) S).bindS (fun v S3=>if acc.length<1000000 then .ok (acc++[v]) S3 else .stuck) else Res.ok acc S)=_
   rw[if_pos rfl,e1]
  rw[e2]
  show _=(fY hd (e.2.2.2 (aa w fg) S)).bindS _
  cases fY hd (e.2.2.2 (aa w fg) S) with
  | ok v S3=>
   show Res.bindS (if acc.length<1000000 then .ok (acc++[v]) S3 else .stuck) _=if acc.length<1000000 then _ else .stuck
   by_cases hc:acc.length<1000000
   ·rw[if_pos hc,if_pos hc]
    have:=l6 (hd:=hd) (tab:=tab) hj post (pre++[e]) w (acc++[v]) S3 (by rw[ht,List.append_assoc]; rfl) hl
    rw[List.length_append] at this
    exact this
   ·rw[if_neg hc,if_neg hc]
    rfl
  | exc x S3=>rfl
  | stuck=>rfl
/-- the whole comprehension -/
theorem rq {hd:Hdr} {j:Nat} {fg:List Nat} {tab:fu} {mi:MI} {env:En} {S:Sto} (hm:mi env S=.ok (.items (oG 0 tab)) S) (hl:j<env.length) (hj:j∈fg) :
  cE mi (gV j) b5 (eI hd j fg tab) [j] env S=dW hd fg (tab.map (·.2.2.2)) env S:=by
 unfold cE dW gY
 rw[hm]
 show (dM (gV j) b5 (eI hd j fg tab) (aa env [j]) (oG 0 tab) [] S).bind _=_
 have:=l6 (hd:=hd) (tab:=tab) hj tab [] (aa env [j]) [] S rfl (by rw[dL]; exact hl)
 rw[List.length_nil] at this
 rw[this,p0 fun v hv=>by rw[List.mem_singleton.mp hv]; exact hj]
theorem kr {hd:Hdr} {fg:List Nat} {ms:List ME} {env:En} {S:Sto} {i:Nat} {v:Option D} (hi:i∈fg):dW hd fg ms (env.set i v) S=dW hd fg ms env S:=by
 unfold dW
 rw[jR hi]
theorem ip (hd:Hdr) (e:En):∀(ms:List ME) (acc:List D) (S:Sto),(∃ds S1,fv hd e ms acc S=.ok ds S1)∨fv hd e ms acc S=.stuck
 | [],acc,S=>.inl ⟨_,_,rfl⟩
 | m::ms,acc,S=>by
  unfold fv
  cases fY hd (m e S) with
  | ok v S3=>
   show (∃ds S1,(if acc.length<1000000 then fv hd e ms (acc++[v]) S3 else .stuck)=.ok ds S1)∨(if acc.length<1000000 then fv hd e ms (acc++[v]) S3 else .stuck)=.stuck
   by_cases hc:acc.length<1000000
   ·rw[if_pos hc]
    exact ip hd e ms _ _
   ·rw[if_neg hc]
    exact .inr rfl
  | exc x S3=>exact .inr rfl
  | stuck=>exact .inr rfl
theorem mj (hd:Hdr) (fg:List Nat) (ms:List ME) (env:En) (S:Sto):(∃d S1,dW hd fg ms env S=.ok d S1)∨dW hd fg ms env S=.stuck:=by
 unfold dW
 rcases ip hd (aa env fg) ms [] S with ⟨ds,S1,e⟩|e
 ·rw[e]; exact .inl ⟨_,_,rfl⟩
 ·rw[e]; exact .inr rfl
theorem uE {α:Type} (S:Sto) (o:Option α) (env:En) (k:α→Sto→RS):(ofO S o).rs env k=match o with|some a=>k a S|none=>.stuck:=by cases o<;>rfl
/-- forgetting slots -/
def ku (fg:List Nat):MS:=fun env S=>.next (aa env fg) S
def mm (n:Nat) (m:MS):MS:=fun env S=>if env.length=n then m env S else .stuck
section
variable {X:Cx} {W:WX} {ss:List Stmt} {m m':MS}
theorem vV (fg:List Nat) (h:PSs X ss (tS X W m)):PSs X ss (tS X W (aV (ku fg) m)):=kN h fun D σ H ⟨env,S,μ,rl,o⟩=>⟨aa env fg,S,μ,⟨ko fg rl.env,rl.sto⟩,o⟩
theorem vW (n:Nat) (h:PSs X ss (tS X W m)):PSs X ss (tS X W (mm n m)):=kN h fun D σ H ⟨env,S,μ,rl,o⟩=>⟨env,S,μ,rl,by
 unfold mm at o
 split at o
 ·exact o
 ·exact o.elim⟩
theorem sSs_eq (e:m=m') (h:PSs X ss (tS X W m)):PSs X ss (tS X W m'):=e▸h
theorem cl_nil {k:Nat}:∀e∈([]:fu),kq X k e:=fun e h=>nomatch h
theorem gx {k:Nat} {e:Bool × Str × (Value→Addr→Value→Value→Obj) × ME} {es:fu} (h:kq X k e) (hs:∀e∈es,kq X k e):∀x∈e::es,kq X k x:=fun x hx=>by
 rcases List.mem_cons.mp hx with rfl|hx
 ·exact h
 ·exact hs x hx
end
/-- x=x+cs,one more appended; x is a list that nobody else holds -/
def qy (i:Nat) (cs:List D) (c:D):MS:=fun env S=>match env[i]? with
 | some (some (.lst xs))=>if xs.length+(cs++[c]).length≤1000000 then .next (env.set i (some (.lst (xs++(cs++[c]))))) S else .stuck
 | _=>.stuck
section
variable {X:Cx} {W:WX}
theorem qz (a b:MS) (env:En) (S:Sto):aV a b env S=(a env S).andThen b:=rfl
theorem kw (env:En) (S:Sto) (k:En→Sto→RS):RS.andThen (.next env S) k=k env S:=rfl
theorem uF (c:Prop) [Decidable c] (b:Bool) (r:D) (S:Sto) (e1 e2:En) (m1 m2:MS) (h:m1 e1 S=m2 e2 S) :
  (Res.rs e1 ((ofO S (if c then some (D.bool b) else none)).bind fun d S=>match d with
   | .bool b=>.ok b S
   | _=>.stuck) fun c S=>if c=true then RS.ret r S else RS.next e1 S).andThen m1 =
  (Res.rs e2 ((ofO S (if c then some (D.bool b) else none)).bind fun d S=>match d with
   | .bool b=>.ok b S
   | _=>.stuck) fun c S=>if c=true then RS.ret r S else RS.next e2 S).andThen m2:=by
 by_cases hc:c
 ·rw[if_pos hc]
  cases b with
  | true=>rfl
  | false=>exact h
 ·rw[if_neg hc]; rfl
end
end DL
namespace DL
open PySem PySem.Spec PyProof.Rows L2
section
variable {X:Cx} {W:WX}
def dRep:D→D→Option D
 | .lst xs,.int k=>if 0≤k∧k≤1000∧xs.length*k.toNat≤1000000 then some (.lst (List.replicate k.toNat xs).flatten) else none
 | _,_=>none
@[simp] theorem dRep_at (xs:List D) (k:Int):dRep (.lst xs) (.int k)=if 0≤k∧k≤1000∧xs.length*k.toNat≤1000000 then some (.lst (List.replicate k.toNat xs).flatten) else none:=rfl
theorem RepAll.rep {K:PySem.W.Frag} {mg:Str→Option Value} {μ:Mu} {H:Hp} {ds:List D} {vs:List V} (h:RepAll K mg μ H ds vs):∀k:Nat,RepAll K mg μ H (List.replicate k ds).flatten (List.replicate k vs).flatten
 | 0=>.nil
 | k+1=>by
  rw[List.replicate_succ,List.replicate_succ,List.flatten_cons,List.flatten_cons]
  exact h.append (RepAll.rep h k)
theorem o_rep:OpR X (binaryOp .Mult) (rP X.K X.mg dRep):=fun pins s σ H x y v u Q I rx ry ⟨μ,S,a,b,d,rs,ra,rb,e,q⟩=>
 op_rep pins s σ H x y v u Q I rx ry (by
  have wa:=rs.view ra
  have wb:=rs.view rb
  unfold lv at e
  generalize view S a=va at e wa
  generalize view S b=vb at e wb
  unfold dRep at e
  split at e
  ·rename_i xs k
   split at e
   ·rename_i hk
    cases e
    obtain ⟨ad,vs,rfl,h1,h2⟩:=wa
    have hv:=wb.int
    subst hv
    exact ⟨ad,k,vs,rfl,rfl,h1,zqO,zqO,by rw[←h2.length]; exact b6 hk.2.2,fun p hp=>q _ _ (.upd hp) (bz rs hp (h2.rep _))⟩
   ·cases e
  ·cases e)
end
/-- one turn: the items made so far,behind it; an exception goes on -/
def rA (g:MG) (m:ME) (w:En) (d:D) (acc:List D) (S:Sto):Res (List D):=match g d w S with
 | none=>.stuck
 | some p=>(m p.1 p.2).bind fun v S3=>if acc.length<1000000 then .ok (acc++[v]) S3 else .stuck
def jS (g:MG) (m:ME) (w:En):List D→List D→Sto→Res (List D)
 | [],acc,S=>.ok acc S
 | d::ds,acc,S=>(rA g m w d acc S).bind fun acc S=>jS g m w ds acc S
def p9 (g:MG) (m:ME) (w:En) (l:Nat):Nat→Nat→List D→Sto→Res (List D)
 | 0,_,_,_=>.stuck
 | n+1,i,acc,S=>match S[l]? with
  | some (.lst xs)=>match xs[i]? with
   | none=>.ok acc S
   | some d=>(rA g m w d acc S).bind fun acc S=>p9 g m w l n (i+1) acc S
  | _=>.stuck
def qA (mi:MI) (g:MG) (m:ME) (vs:List Nat):MA:=fun env S=>(mi env S).bind fun it S=>match it with
 | .items ds=>jS g m (aa env vs) ds [] S
 | .live l=>p9 g m (aa env vs) l (ie S l+1) 0 [] S
 | .liveE _=>.stuck
def eCompX (mi:MI) (g:MG) (m:ME) (vs:List Nat):ME:=fun env S=>(qA mi g m vs env S).bind fun ds S=>.ok (.lst ds) S
/-- at A.m stands v -/
structure ClV (K:PySem.W.Frag) (A:Addr) (m:Str) (v:Value):Prop where
 rd:PySem.W.readsIn K A (.type "type")=true
 ga:PySem.W.specialIn K (.ref A) "__getattribute__"=some (some (.builtin "type.__getattribute__"))
 up:PySem.W.findCls K (.ref A) (.type "type") m=some (.val v)
theorem vX {K:PySem.W.Frag} {A:Addr} {m:Str} {v:Value} (h:clVB K A m v=true):ClV K A m v:=by
 unfold clVB at h
 simp only[Bool.and_eq_true] at h
 obtain ⟨⟨h1,h2⟩,h3⟩:=h
 refine ⟨h1,He.eqO_ok h2,?_⟩
 split at h3
 ·rename_i u e
  rw[of_decide_eq_true h3] at e
  exact e
 ·cases h3
theorem vY {K:PySem.W.Frag} {C:Addr} (h:oexB K C=true):OexC K C:=by
 unfold oexB at h
 simp only[Bool.and_eq_true,decide_eq_true_eq] at h
 obtain ⟨⟨⟨⟨q,h2⟩,h3⟩,h4⟩,h5⟩:=h
 refine ⟨?_,He.eqO_ok h2,h3,h4,h5⟩
 split at q
 ·rename_i dd cd sl ho
  split at q
  ·rename_i C' bm k0 k1 k2 k3 n k5 hm hs
   simp only[Bool.and_eq_true,beq_iff_eq,Bool.not_eq_true'] at q
   obtain ⟨⟨⟨⟨rfl,rfl⟩,hdel⟩,hdi⟩,hr⟩:=q
   obtain ⟨nm,bs,mro,ns,qn,hd,sn,sub,ab,col,del⟩:=cd
   dsimp only at hm hdel hdi
   subst hm hdel hdi
   have hsl:sl=#[k0,k1,k2,k3,some (.builtin "ValueError.__new__"),k5]:=by
    obtain ⟨l⟩:=sl
    simp only at hs
    rw[hs]
   subst hsl
   exact ⟨nm,qn,ns,bs,bm,sn,sub,ab,col,dd,k0,k1,k2,k3,k5,ho,hr⟩
  ·cases q
 ·cases q
/-- an own error with fields: its class at C,its __init__ at fI,the class above at A -/
structure ExcI (K:PySem.W.Frag) (C fI A:Addr) (ns:List Str):Prop where
 ox:OexC K C
 ini:PySem.W.findIn K (.ref C) "__init__"=some (some (.ref fI))
 ty:PySem.W.typeIn K (.ref fI)=some (.type "function")
 fl:∀n∈ns,PySem.W.findIn K (.ref C) n=some none
 up:ClV K A "__init__" (.builtin "ValueError.__init__")
theorem uG {K:PySem.W.Frag} {C fI A:Addr} {ns:List Str} (h:sW K C fI A ns=true):ExcI K C fI A ns:=by
 unfold sW at h
 simp only[Bool.and_eq_true,decide_eq_true_eq,List.all_eq_true] at h
 obtain ⟨⟨⟨⟨h1,h2⟩,h3⟩,h4⟩,h5⟩:=h
 exact ⟨vY h1,He.eqO_ok h2,h3,fun n hn=>He.eqO_ok (h4 n hn),vX h5⟩
/-- the call of y.m is evaluated as a method's call -/
def uH (y nm:Str) (p1 p2 pos:Pos) (es:List Expr) (env:Env):Prop:=∃pl:Sem Bool,eval (.Call (.Attribute (.Name y p1) nm p2) es [] pos) env=(do
   let ov ←eval (.Name y p1) env
   standAt p2.atName
   let (f,first) ←holding [ov] (getMethod ov nm pl)
   callWith pos f first (backTo pos (starEach es env)) (backToKw pos (keywordEach [] env)))
section
variable {X:Cx} {e:Expr} {es:List Expr} {ta:TA} {y:Str} {A:Addr} {p1 p2 pos:Pos}
/-- A.__init__(self,..),A without an own one -/
theorem r9 (hg:Gl X y) (hm:X.mg y=some (.ref A)) (V:ClV X.K A "__init__" (.builtin "ValueError.__init__")) (ha:PA X (e::es) ta) (hdb:(y == ("__debug__":Str))=false:=by decide)
  (hc:uH y "__init__" p1 p2 pos (e::es) X.env)
  (he:starEach (e::es) X.env=(false,eval e X.env)::starEach es X.env:=by rfl) (hpl:(backTo pos (starEach es X.env)).any (·.1)=false:=by rfl) :
  PE X (.Call (.Attribute (.Name y p1) "__init__" p2) (e::es) [] pos) (tVeI X.K ta):=by
 obtain ⟨pl,hc⟩:=hc
 refine ⟨fun pins s σ H Q I h=>?_⟩
 refine PySem.W.methodCall_KW (ld_glob I hg hm ?_ hdb) hc
 refine PySem.W.method_cls I.kIn V.ga (PySem.W.cls_value I.kIn V.rd V.up rfl ?_)
 show wpAny _ _ (callWith pos (Value.builtin "ValueError.__init__") [] (backTo pos (starEach (e::es) X.env)) []) _ _ _
 refine PyProof.Rows.callWith_method1 (thn (ha.run pos pins _ σ H _ (I.tok _) h) fun us s1 ⟨vs,H1,I1,r1,a,C,ws,ev,hl,T,ea,q⟩=>?_) he hpl
 subst ev
 cases r1 with
 | @cons _ u0 _ ur ra rw'=>
  obtain rfl:u0=Value.ref a:=ra
  have hlen:ur.length≤sizeLine:=by
   rw[←Paired.length rw',sizeLine_eq]
   omega
  exact oinit_ok T I1 ea hlen fun s' J=>⟨.non,H1,J,rfl,q⟩
end
/-- what such an __init__ keeps: the fields are these -/
def spI (C:Addr) (ns:List Str):Sp:=fun vs H Q E=>∃(a:Addr) (ys:List V),vs=.ref a::ys∧ys.length=ns.length∧H a=some (exo a C none)∧
 ∀dx H',H dx=none→dx≠a→H' a=some (exo a C (some dx))→H' dx=some (exd dx (ns.zip ys).reverse)→(∀b,b≠a→b≠dx→H' b=H b)→Q .non H'
section
variable {P:Program} {w:World} {K:PySem.W.Frag} {mg:Str→Option Value} {base:Heap} {qual y m f1 f2:Str} {params:Arguments} {body:List Stmt} {scope:Scope} {C fI A:Addr} {fd:FuncData} {k j:Nat}
 {p1 p2 p3 p4 p5 p6 q1 q2 q3 q4 r1 r2 r3 r4:Pos}
theorem iq {N ps:List Str} (S:FnScope N ps scope) {x:Str} (h:x∈ps):Vis scope x:=(S.par x h).elim .inl fun z=>.inr (.inl z)
theorem uI (T:ExcI K C fI A [f1,f2]) (F:FunD K "__init__" qual params body scope [] [] fI fd) (S:FnScope ["self",f1,f2] ["self",f1,f2] scope) (hA:mg y=some (.ref A)) (hg:scope.names.lookup y=some .globalImplicit)
  (hb:body=[.Expr (.Call (.Attribute (.Name y p1) "__init__" p2) [.Name "self" p3,.Constant (.str m) j p4] [] p5) p6,.Assign [.Attribute (.Name "self" q1) f1 q2] (.Name f1 q3) q4,.Assign [.Attribute (.Name "self" r1) f2 r2] (.Name f2 r3) r4])
  (hce:∀(n:Nat) (cdv:Value),uH y "__init__" p1 p2 p5 [.Name "self" p3,.Constant (.str m) j p4] (envOfC qual scope n fI cdv))
  (hdb:(y == ("__debug__":Str))=false:=by decide) (hd1:(f1 == ("__debug__":Str))=false:=by decide) (hc1:(f1 == ("__classdict__":Str))=false:=by decide) (hd2:(f2 == ("__debug__":Str))=false:=by decide) (hc2:(f2 == ("__classdict__":Str))=false:=by decide) :
  FnOk P w K mg base C8.CX0 (k+1) fI fd ["self",f1,f2] (spI C [f1,f2]):=by
 subst hb
 refine FunD.ok F S (fun vs H Q E ⟨a,ys,e,hl,_⟩=>by rw[e]; simp[hl]) fun cdv A0 outer s H vs Q E hr ⟨a,ys,e,hl,ha,hq⟩=>?_
 subst e
 match ys,hl with
 | [v1,v2],_=>
  refine ⟨_,pss_cons (ps_expr (r9 (A:=A) hg hA T.up (pa_cons (pe_var (i:=0) rfl (iq S zqS)) (pa_cons pe_str pa_nil)) hdb (hce _ _))) (pss_cons (ps_ost (pe_var (i:=0) rfl (iq S zqS)) (pe_var (i:=1) rfl (iq S zqS) hd1 hc1))
   (pss_one (ps_ost (pe_var (i:=0) rfl (iq S zqS)) (pe_var (i:=2) rfl (iq S zqS) hd2 hc2)))),?_⟩
  refine ⟨.ref a,rfl,a,C,[.str m],rfl,zqS,T.ox,ha,?_⟩
  refine ⟨v1,rfl,.ref a,rfl,a,C,rfl,T.ox,T.fl f1 zqS,.inl ⟨ha,fun dx hd hne=>?_⟩⟩
  refine ⟨v2,rfl,.ref a,rfl,a,C,rfl,T.ox,T.fl f2 zqS,.inr ⟨dx,[(f1,v1)],upd_same,by rw[upd_ne hne,upd_same],zqS,?_⟩⟩
  refine hq dx _ hd hne ?_ upd_same fun b h1 h2=>?_
  ·rw[upd_ne (Ne.symm hne),upd_same]
  ·rw[upd_ne h2,upd_ne h1,upd_ne h2]
end
def eQ (C:Str) (ns:List Str) (r:MA):MS:=fun env S=>(r env S).rs env fun ds S=>if ds.length=ns.length∧ns≠[]∧ns.length≤1000 then .exc ⟨C,(ns.zip ds).reverse⟩ env S else .stuck
section
variable {X:Cx} {W:WX} {x:Str} {C fI A:Addr} {fd:FuncData} {k:Nat} {ns:List Str} {e:Expr} {es:List Expr} {r:MA} {p pos pos':Pos}
theorem map_fst_zip {α β:Type}:∀ {as:List α} {bs:List β},as.length=bs.length→(as.zip bs).map (·.1)=as
 | [],[],_=>rfl
 | a::as,b::bs,h=>by simp[map_fst_zip (as:=as) (bs:=bs) (by simpa using h)]
theorem jo {α β:Type}:∀ {as:List α} {bs:List β},as.length=bs.length→(as.zip bs).map (·.2)=bs
 | [],[],_=>rfl
 | a::as,b::bs,h=>by simp[jo (as:=as) (bs:=bs) (by simpa using h)]
theorem vZ {α β:Type} {as:List α} {bs:List β} (h:as.length=bs.length):as.reverse.zip bs.reverse=(as.zip bs).reverse:=by
 unfold List.zip
 exact (List.reverse_zipWith h).symm
theorem RepAll.rev {K:PySem.W.Frag} {mg:Str→Option Value} {μ:Mu} {H:Hp} {ds:List D} {vs:List V} (h:RepAll K mg μ H ds vs):RepAll K mg μ H ds.reverse vs.reverse:=h.reverse
theorem sA {ps:List Str} (hc:X.calm=true) (tk:Takes X W) (T:ExcI X.K C fI A ns) (F:FnOk X.prog X.w X.K X.mg X.base C8.CX0 k fI fd ps (spI C ns)) (hb:Binds X.K fd ps []) (hr:Room (k+1) X.A) (gC:X.mg x=some (.ref C)) (hg:Gl X x)
  (ha:PA X (e::es) (tAs X W r)) (hdb:(x == ("__debug__":Str))=false:=by decide) (he:starEach (e::es) X.env=(false,eval e X.env)::starEach es X.env:=by rfl) (hpl:(backTo pos (starEach es X.env)).any (·.1)=false:=by rfl) :
  PS X (.Raise (some (.Call (.Name x p) (e::es) [] pos)) none pos') (tS X W (eQ x ns r)):=
 gU (L2N.ps_raise hc tk (tK T.ox T.ini T.ty F hr hb pass0 hg gC ha hdb he hpl)) fun D σ H ⟨env,S,μ,rl,o⟩=>by
  refine ⟨env,S,μ,rl,(OutS.rs rl.env o).mono fun vs H1 ⟨μ1,S1,ds,st,rs,ra,o1⟩=>?_⟩
  split at o1
  ·rename_i hl
   obtain ⟨hl,hn,h1000⟩:=hl
   have hlv:vs.length=ns.length:=by rw[←ra.length]; exact hl
   refine ⟨by omega,fun a na=>⟨a,vs,zqS,hlv,upd_same,fun dx H' hd hne e1 e2 e3=>?_⟩⟩
   rw[upd_ne hne] at hd
   refine ⟨rfl,dx,_,e1,e2,hd,?_⟩
   have eH:upd (del H' a) dx (.xd (ns.zip vs).reverse)=upd H1 dx (.xd (ns.zip vs).reverse):=by
    funext b
    by_cases h1:b=dx
    ·subst h1; rw[upd_same,upd_same]
    ·rw[upd_ne h1,upd_ne h1]
     by_cases h2:b=a
     ·subst h2; rw[del_same,na]
     ·rw[del_ne h2,e3 b h2 h1,upd_ne h2]
   rw[eH]
   have sm:Sm H1 (upd H1 dx (.xd (ns.zip vs).reverse)):=.upd hd
   have st2:Step μ1 H1 μ1 (upd H1 dx (.xd (ns.zip vs).reverse)):=.of_sm sm
   refine o1 μ1 _ σ (.ref C) (some dx) st2 ((rl.env.step st).step st2) (rs.sm sm) ⟨C,gC,rfl,.inr ⟨?_,dx,vs.reverse,rfl,?_,?_⟩⟩
   ·intro z
    have z:(ns.zip ds).reverse=[]:=z
    rw[List.reverse_eq_nil_iff,List.zip_eq_nil_iff] at z
    rcases z with z|z
    ·exact hn z
    ·rw[z] at hl
     exact hn (List.eq_nil_of_length_eq_zero hl.symm)
   ·rw[upd_same]
    show some (HO.xd _)=some (HO.xd _)
    rw[List.map_reverse,map_fst_zip hl.symm,vZ hlv.symm]
   ·show RepAll _ _ _ _ (((ns.zip ds).reverse).map (·.2)) _
    rw[List.map_reverse,jo hl.symm]
    exact RepAll.step st2 _ _ ra.rev
  ·exact o1.elim
end
def uJ (cn:Str) (n k:Nat) (mi:MF) (r rk:MA):ME:=fun env S=>(r env S).bind fun ds S=>(rk env S).bind fun zs S=>if ds.length+1=k then (chk n mi (.loc S.length::(ds++zs)) (S++[.ins cn []])).bind (fun d S'=>match d with
 | .none=>.ok (.loc S.length) S'
 | _=>.stuck) else .stuck
section
variable {X:Cx} {W:WX} {k n:Nat} {f C A:Addr} {ps ks:List Str} {m mi:MF} {x y nm cn kn:Str} {dv:Int} {p p1 p2 pos kpos:Pos} {e ek:Expr} {es:List Expr} {r:MA} {mk:ME}
theorem fb {x:Str} {fI:Addr} {ns:List Str} {pos':Pos} (hc:X.calm=true) (tk:Takes X W) (T:ExcI X.K C fI A ns) (F:∃fd,FnOk X.prog X.w X.K X.mg X.base C8.CX0 k fI fd ps (spI C ns)∧Binds X.K fd ps []) (hr:Room (k+1) X.A) (gC:X.mg x=some (.ref C)) (hg:Gl X x)
  (ha:PA X (e::es) (tAs X W r)) (hdb:(x == ("__debug__":Str))=false:=by decide) (he:starEach (e::es) X.env=(false,eval e X.env)::starEach es X.env:=by rfl) (hpl:(backTo pos (starEach es X.env)).any (·.1)=false:=by rfl) :
  PS X (.Raise (some (.Call (.Name x p) (e::es) [] pos)) none pos') (tS X W (eQ x ns r)):=by
 obtain ⟨fd,F,hb⟩:=F
 exact sA hc tk T F hb hr gC hg ha hdb he hpl
end
end DL
namespace DL
open PySem PySem.Spec PyProof.Rows L2 LamX
/-- keeps what is wanted from being rewritten ahead of its time -/
inductive Dum {α:Type} (x:α):Type where
 | mk
/-- what holds behind an expression -/
@[irreducible] def Res.wp {α:Type} (r:Res α) (Q:α→Sto→Prop) (E:XV→Sto→Prop) (_:Dum Q:=.mk) (_:Dum E:=.mk) (_:True:=trivial):Prop:=match r with
 | .ok a S=>Q a S
 | .exc e S=>E e S
 | .stuck=>False
/-- what holds behind statements: next,return,raise,break,continue -/
@[irreducible] def RS.wp (x:RS) (N:En→Sto→Prop) (R:D→Sto→Prop) (E:XV→Sto→Prop) (B C:En→Sto→Prop) (_:Dum N:=.mk) (_:Dum R:=.mk) (_:Dum E:=.mk) (_:Dum B:=.mk) (_:Dum C:=.mk) (_:True:=trivial):Prop:=match x with
 | .next e S=>N e S
 | .brk e S=>B e S
 | .cont e S=>C e S
 | .ret d S=>R d S
 | .exc e _ S=>E e S
 | .stuck=>False
abbrev NoE:XV→Sto→Prop:=fun _ _=>False
abbrev NoB:En→Sto→Prop:=fun _ _=>False
@[simp] theorem NoE_at (e:XV) (S:Sto):NoE e S=False:=rfl
@[simp] theorem NoB_at (e:En) (S:Sto):NoB e S=False:=rfl
section
variable {α β:Type} {Q Q':α→Sto→Prop} {E E':XV→Sto→Prop} {N N' B B' C C':En→Sto→Prop} {R R':D→Sto→Prop} {S:Sto} {env:En}
@[simp] theorem fc {a:α}:Res.wp (.ok a S) Q E=Q a S:=by unfold Res.wp; rfl
@[simp] theorem ky:Res.wp (.stuck:Res α) Q E=False:=by unfold Res.wp; rfl
@[simp] theorem qB {a:XV}:Res.wp (.exc a S:Res α) Q E=E a S:=by unfold Res.wp; rfl
@[simp] theorem jT:RS.wp .stuck N R E B C=False:=by unfold RS.wp; rfl
@[simp] theorem kz {a:En}:RS.wp (.next a S) N R E B C=N a S:=by unfold RS.wp; rfl
@[simp] theorem rC {a:D}:RS.wp (.ret a S) N R E B C=R a S:=by unfold RS.wp; rfl
@[simp] theorem vc {a:XV}:RS.wp (.exc a env S) N R E B C=E a S:=by unfold RS.wp; rfl
@[simp] theorem ve {a:En}:RS.wp (.brk a S) N R E B C=B a S:=by unfold RS.wp; rfl
@[simp] theorem oH {a:En}:RS.wp (.cont a S) N R E B C=C a S:=by unfold RS.wp; rfl
@[simp ↓] theorem wp_bind {r:Res β} {f:β→Sto→Res α}:Res.wp (r.bind f) Q E=Res.wp r (fun a S=>Res.wp (f a S) Q E) E:=by cases r<;>simp[Res.bind]
@[simp ↓] theorem wp_rs {r:Res β} {k:β→Sto→RS}:RS.wp (r.rs env k) N R E B C=Res.wp r (fun a S=>RS.wp (k a S) N R E B C) E:=by cases r<;>simp[Res.rs]
@[simp ↓] theorem wp_then {r:RS} {k:MS}:RS.wp (r.andThen k) N R E B C=RS.wp r (fun e S=>RS.wp (k e S) N R E B C) R E B C:=by cases r<;>simp[RS.andThen]
theorem dN {r:Res α} (h:Res.wp r Q E) (i:∀a S,Q a S→Q' a S) (j:∀a S,E a S→E' a S):Res.wp r Q' E':=by
 cases r with
 | ok a S=>rw[fc] at *; exact i a S h
 | exc e S=>rw[qB] at *; exact j e S h
 | stuck=>rw[ky] at *; exact h
/-- a call whose rule is known; nothing is raised -/
theorem vf {r:Res α} (h:Res.wp r Q NoE) (i:∀a S,Q a S→Q' a S):Res.wp r Q' E':=dN h i fun _ _ z=>z.elim
theorem oJ {r:RS} (h:RS.wp r N R E B C) (hn:∀a S,N a S→N' a S) (hr:∀a S,R a S→R' a S) (he:∀a S,E a S→E' a S:=by exact fun _ _ h=>h) (hb:∀a S,B a S→B' a S:=by exact fun _ _ h=>h) (hc:∀a S,C a S→C' a S:=by exact fun _ _ h=>h):RS.wp r N' R' E' B' C':=by
 cases r with
 | next a S=>rw[kz] at *; exact hn a S h
 | ret a S=>rw[rC] at *; exact hr a S h
 | exc a e S=>rw[vc] at *; exact he a S h
 | brk a S=>rw[ve] at *; exact hb a S h
 | cont a S=>rw[oH] at *; exact hc a S h
 | stuck=>rw[jT] at *; exact h
theorem mn {c:Prop} [Decidable c] {a b:RS} (h1:c→RS.wp a N R E B C) (h2:¬c→RS.wp b N R E B C):RS.wp (if c then a else b) N R E B C:=by
 by_cases h:c
 ·rw[if_pos h]; exact h1 h
 ·rw[if_neg h]; exact h2 h
/-- what a def gives -/
theorem bO {n:Nat} {m:MS} {ds:List D} {Q:D→Sto→Prop} (h:RS.wp (m (ds.map some++List.replicate n none) S) (fun _ S=>Q .none S) Q E NoB NoB):Res.wp (bF n m ds S) Q E:=by
 rw[tr]
 generalize m (ds.map some++List.replicate n none) S=x at h
 cases x<;>simpa using h
theorem vg {τ:Type} {g:MG} {b:MS} {f:τ→D} (I:List τ→List τ→En→Sto→Prop) (xs:List τ)
  (step:∀pre x rest env S,pre++x::rest=xs→I pre (x::rest) env S→∃p,g (f x) env S=some p∧RS.wp (b p.1 p.2) (I (pre++[x]) rest) R E N (I (pre++[x]) rest))
  (fin:∀env S,I xs [] env S→N env S):∀(pre rest:List τ) (env:En) (S:Sto),pre++rest=xs→I pre rest env S→RS.wp (gX g b (rest.map f) env S) N R E B C:=by
 intro pre rest
 induction rest generalizing pre with
 | nil=>
  intro env S e h
  rw[List.append_nil] at e
  subst e
  show RS.wp (.next env S) N R E B C
  rw[kz]
  exact fin env S h
 | cons x rest ih=>
  intro env S e h
  obtain ⟨p,e1,hb⟩:=step pre x rest env S e h
  rw[List.map_cons]
  unfold gX
  rw[e1]
  simp only[]
  generalize b p.1 p.2=y at hb
  cases y with
  | next e' S'=>rw[kz] at hb; exact ih (pre++[x]) e' S' (by rw[←e]; simp) hb
  | cont e' S'=>rw[oH] at hb; exact ih (pre++[x]) e' S' (by rw[←e]; simp) hb
  | brk e' S'=>simpa using hb
  | ret d S'=>simpa using hb
  | exc x e' S'=>simpa using hb
  | stuck=>simpa using hb
theorem fw {τ:Type} {g:MG} {b:MS} {f:τ→D} {ds:List D} {env:En} {S:Sto} (xs:List τ) (I:List τ→List τ→En→Sto→Prop) (e:ds=xs.map f) (h:I [] xs env S)
  (step:∀pre x rest env S,pre++x::rest=xs→I pre (x::rest) env S→∃p,g (f x) env S=some p∧RS.wp (b p.1 p.2) (I (pre++[x]) rest) R E N (I (pre++[x]) rest))
  (fin:∀env S,I xs [] env S→N env S):RS.wp (gX g b ds env S) N R E B C:=by
 subst e
 exact vg I xs step fin [] xs env S rfl h
/-- a comprehension -/
theorem k6 {τ:Type} {g:MG} {tc:MT} {m:ME} {w:En} {f:τ→D} {ds:List D} {Q:List D→Sto→Prop} (xs:List τ) (I:List τ→List τ→List D→Sto→Prop) (e:ds=xs.map f) (h:I [] xs [] S)
  (step:∀pre x rest acc S,pre++x::rest=xs→I pre (x::rest) acc S→∃p,g (f x) w S=some p∧Res.wp (tc p.1 p.2) (fun c S=>if c=true then Res.wp (m p.1 S) (fun v S=>acc.length<1000000∧I (pre++[x]) rest (acc++[v]) S) NoE else I (pre++[x]) rest acc S) NoE)
  (fin:∀acc S,I xs [] acc S→Q acc S):Res.wp (dM g tc m w ds [] S) Q E:=by
 subst e
 have loop:∀(rest pre:List τ) (acc:List D) (S:Sto),pre++rest=xs→I pre rest acc S→Res.wp (dM g tc m w (rest.map f) acc S) Q E:=by
  intro rest
  induction rest with
  | nil=>
   intro pre acc S e h
   rw[List.append_nil] at e
   rw[e] at h
   show Res.wp (.ok acc S) Q E
   rw[fc]
   exact fin acc S h
  | cons x rest ih=>
   intro pre acc S e h
   obtain ⟨p,e1,ht⟩:=step pre x rest acc S e h
   rw[List.map_cons]
   unfold dM iG
   simp only[e1]
   generalize tc p.1 p.2=y at ht
   cases y with
   | exc _ _=>simp at ht
   | stuck=>simp at ht
   | ok c S1=>
    rw[fc] at ht
    have ht:if c=true then Res.wp (m p.1 S1) (fun v S=>acc.length<1000000∧I (pre++[x]) rest (acc++[v]) S) NoE else I (pre++[x]) rest acc S1:=ht
    cases c with
    | false=>
     simp only[e9,Bool.false_eq_true,if_false] at ht ⊢
     exact ih (pre++[x]) acc S1 (by rw[←e]; simp) ht
    | true=>
     simp only[e9,if_true] at ht ⊢
     generalize m p.1 S1=z at ht
     cases z with
     | exc _ _=>simp at ht
     | stuck=>simp at ht
     | ok v S2=>
      rw[fc] at ht
      obtain ⟨hl,hi⟩:=ht
      simp only[e9,hl,if_true]
      exact ih (pre++[x]) (acc++[v]) S2 (by rw[←e]; simp) hi
 exact loop xs [] [] S rfl h
/-- a comprehension of what changes nothing,by an own filter and function -/
theorem qC {τ:Type} {g:MG} {tc:MT} {m:ME} {w:En} {f:τ→D} {S:Sto} (xs:List τ) (p:τ→Bool) (v:τ→D) (hl:xs.length≤1000000)
  (hx:∀x∈xs,∃e,g (f x) w S=some (e,S)∧tc e S=.ok (p x) S∧(p x=true→m e S=.ok (v x) S)):dM g tc m w (xs.map f) [] S=.ok ((xs.filter p).map v) S:=by
 have loop:∀(rest:List τ) (acc:List D),(∀x∈rest,x∈xs)→acc.length+rest.length≤1000000→dM g tc m w (rest.map f) acc S=.ok (acc++(rest.filter p).map v) S:=by
  intro rest
  induction rest with
  | nil=>intro acc _ _; simp[dM]
  | cons x rest ih=>
   intro acc hm hl
   obtain ⟨e,e1,e2,e3⟩:=hx x (hm x List.mem_cons_self)
   rw[List.length_cons] at hl
   rw[List.map_cons]
   unfold dM iG
   simp only[e1,e2,e9]
   cases hp:p x with
   | false=>
    simp only[Bool.false_eq_true,if_false,e9]
    rw[ih acc (fun y hy=>hm y (List.mem_cons_of_mem _ hy)) zqO]
    simp[hp]
   | true=>
    have ha:acc.length<1000000:=zqO
    simp only[if_true,e3 hp,e9,ha]
    rw[ih (acc++[v x]) (fun y hy=>hm y (List.mem_cons_of_mem _ hy)) (by simp; omega)]
    simp[hp]
 exact (loop xs [] (fun _ h=>h) (by simpa using hl)).trans zqS
end
@[simp] theorem vh (a b:String):(Str.ofString a=Str.ofString b)↔a=b:=by
 refine ⟨fun h=>?_,fun h=>by rw[h]⟩
 rw[Str.ofString_eq_toList,Str.ofString_eq_toList] at h
 have h1:a.toList.map Char.toNat=b.toList.map Char.toNat:=by simpa using h
 have h2:a.toList=b.toList:=(List.map_inj_right fun x y e=>Char.toNat_inj.mp e).mp h1
 exact String.toList_inj.mp h2
@[simp] theorem lookup_if (k a:Str) (v:D) (r:List (Str × D)):List.lookup k ((a,v)::r)=if k=a then some v else List.lookup k r:=by
 rw[List.lookup_cons]
 by_cases h:k=a
 ·rw[if_pos h,show (k == a)=true by simp[h]]
 ·rw[if_neg h,show (k == a)=false by simp[h]]
def dB (xs ys:List D):Bool:=PyData.eqvAll (pdFs xs) (pdFs ys)
@[simp] theorem peqAll_nil:dB [] []=true:=by simp[dB,pdFs,PyData.eqvAll]
@[simp] theorem wC (x:D) (xs:List D):dB [] (x::xs)=false:=by simp[dB,pdFs,PyData.eqvAll]
@[simp] theorem wD (x:D) (xs:List D):dB (x::xs) []=false:=by simp[dB,pdFs,PyData.eqvAll]
@[simp] theorem wE (x y:D) (xs ys:List D):dB (x::xs) (y::ys)=(peq x y&&dB xs ys):=by simp[dB,peq,pdFs,PyData.eqvAll]
@[simp] theorem peq_int (i j:Int):peq (.int i) (.int j)=decide (i=j):=by unfold peq pdF PyData.eqv; exact Bool.beq_eq_decide_eq i j
@[simp] theorem peq_str (i j:Str):peq (.str i) (.str j)=decide (i=j):=by unfold peq pdF PyData.eqv; exact Bool.beq_eq_decide_eq i j
@[simp] theorem peq_bool (i j:Bool):peq (.bool i) (.bool j)=(i == j):=by unfold peq pdF PyData.eqv; rfl
@[simp] theorem peq_tt (xs ys:List D):peq (.tup xs) (.tup ys)=dB xs ys:=by unfold peq pdF PyData.eqv; rfl
@[simp] theorem peq_tp (xs ys:List D):peq (.tup xs) (.tpn ys)=dB xs ys:=by unfold peq pdF PyData.eqv; rfl
@[simp] theorem peq_pt (xs ys:List D):peq (.tpn xs) (.tup ys)=dB xs ys:=by unfold peq pdF PyData.eqv; rfl
@[simp] theorem peq_pp (xs ys:List D):peq (.tpn xs) (.tpn ys)=dB xs ys:=by unfold peq pdF PyData.eqv; rfl
@[simp] theorem peq_ll (xs ys:List D):peq (.lst xs) (.lst ys)=dB xs ys:=by unfold peq pdF PyData.eqv; rfl
@[simp] theorem peq_nn:peq .none .none=true:=by unfold peq pdF PyData.eqv; rfl
@[simp] theorem peq_lt (xs ys:List D):peq (.lst xs) (.tup ys)=false:=by unfold peq pdF PyData.eqv; rfl
@[simp] theorem peq_tl (xs ys:List D):peq (.tup xs) (.lst ys)=false:=by unfold peq pdF PyData.eqv; rfl
@[simp] theorem peq_sl (x:Str) (ys:List D):peq (.str x) (.lst ys)=false:=by unfold peq pdF PyData.eqv; rfl
@[simp] theorem peq_ls (x:Str) (ys:List D):peq (.lst ys) (.str x)=false:=by unfold peq pdF PyData.eqv; rfl
@[simp] theorem peq_st (x:Str) (ys:List D):peq (.str x) (.tup ys)=false:=by unfold peq pdF PyData.eqv; rfl
@[simp] theorem peq_ts (x:Str) (ys:List D):peq (.tup ys) (.str x)=false:=by unfold peq pdF PyData.eqv; rfl
@[simp] theorem peq_nt (ys:List D):peq .none (.tup ys)=false:=by unfold peq pdF PyData.eqv; rfl
@[simp] theorem peq_tn (ys:List D):peq (.tup ys) .none=false:=by unfold peq pdF PyData.eqv; rfl
@[simp] theorem peq_is (i:Int) (x:Str):peq (.int i) (.str x)=false:=by unfold peq pdF PyData.eqv; rfl
@[simp] theorem peq_si (i:Int) (x:Str):peq (.str x) (.int i)=false:=by unfold peq pdF PyData.eqv; rfl
@[simp] theorem peq_it (i:Int) (x:List D):peq (.int i) (.tup x)=false:=by unfold peq pdF PyData.eqv; rfl
@[simp] theorem peq_ti (i:Int) (x:List D):peq (.tup x) (.int i)=false:=by unfold peq pdF PyData.eqv; rfl
@[simp] theorem peq_ni (i:Int):peq .none (.int i)=false:=by unfold peq pdF PyData.eqv; rfl
@[simp] theorem peq_in (i:Int):peq (.int i) .none=false:=by unfold peq pdF PyData.eqv; rfl
@[simp] theorem peq_ns (i:Str):peq .none (.str i)=false:=by unfold peq pdF PyData.eqv; rfl
@[simp] theorem peq_sn (i:Str):peq (.str i) .none=false:=by unfold peq pdF PyData.eqv; rfl
@[simp] theorem oK (n:Nat):dok n .none=true:=by cases n<;>rfl
@[simp] theorem oL (n:Nat) (b:Bool):dok n (.bool b)=true:=by cases n<;>rfl
@[simp] theorem mq (n:Nat) (i:Int):dok n (.int i)=true:=by cases n<;>rfl
@[simp] theorem mr (n:Nat) (x:Str):dok n (.str x)=PyData.strOk x:=by cases n<;>rfl
@[simp] theorem mt (n:Nat) (xs:List D):dok (n+1) (.tup xs)=xs.all (dok n):=rfl
@[simp] theorem kA (n:Nat) (xs:List D):dok (n+1) (.lst xs)=xs.all (dok n):=rfl
@[simp] theorem mu (n:Nat) (xs:List D):dok (n+1) (.tpn xs)=xs.all (dok n):=rfl
@[simp] theorem sB (xs:List D):dok 60 (.tup xs)=xs.all (dok 59):=rfl
@[simp] theorem l7 (xs:List D):dok 60 (.lst xs)=xs.all (dok 59):=rfl
@[simp] theorem sC (xs:List D):dok 60 (.tpn xs)=xs.all (dok 59):=rfl
@[simp] theorem dok_tup59 (xs:List D):dok 59 (.tup xs)=xs.all (dok 58):=rfl
@[simp] theorem dok_lst59 (xs:List D):dok 59 (.lst xs)=xs.all (dok 58):=rfl
@[simp] theorem dok_tpn59 (xs:List D):dok 59 (.tpn xs)=xs.all (dok 58):=rfl
@[simp] theorem dok_tup58 (xs:List D):dok 58 (.tup xs)=xs.all (dok 57):=rfl
@[simp] theorem dok_lst58 (xs:List D):dok 58 (.lst xs)=xs.all (dok 57):=rfl
@[simp] theorem dok_tpn58 (xs:List D):dok 58 (.tpn xs)=xs.all (dok 57):=rfl
/-- what stands for values of one kind -/
structure Enc {τ:Type} (k:Nat) (f:τ→D):Prop where
 dok:∀n a,k≤n→dok n (f a)=true
 peq:∀a b,peq (f a) (f b)=true↔a=b
theorem Enc.int:Enc 0 D.int:=⟨fun n a _=>mq n a,fun a b=>by simp⟩
theorem Enc.all {τ:Type} {k:Nat} {f:τ→D} (h:Enc k f):∀xs ys:List τ,dB (xs.map f) (ys.map f)=true↔xs=ys
 | [],[]=>by simp
 | [],y::ys=>by simp
 | x::xs,[]=>by simp
 | x::xs,y::ys=>by simp[h.peq,h.all xs ys]
theorem Enc.tup {τ:Type} {k:Nat} {f:τ→D} (h:Enc k f):Enc (k+1) fun xs:List τ=>D.tup (xs.map f):=
 ⟨fun n a hn=>by
  obtain ⟨m,rfl⟩:∃m,n=m+1:=⟨n - 1,zqO⟩
  rw[mt,List.all_map,List.all_eq_true]
  exact fun x _=>h.dok m x zqO,fun a b=>by rw[peq_tt,h.all]⟩
theorem Enc.tpn {τ:Type} {k:Nat} {f:τ→D} (h:Enc k f):Enc (k+1) fun xs:List τ=>D.tpn (xs.map f):=
 ⟨fun n a hn=>by
  obtain ⟨m,rfl⟩:∃m,n=m+1:=⟨n - 1,zqO⟩
  rw[mu,List.all_map,List.all_eq_true]
  exact fun x _=>h.dok m x zqO,fun a b=>by rw[peq_pp,h.all]⟩
theorem Enc.lst {τ:Type} {k:Nat} {f:τ→D} (h:Enc k f):Enc (k+1) fun xs:List τ=>D.lst (xs.map f):=
 ⟨fun n a hn=>by
  obtain ⟨m,rfl⟩:∃m,n=m+1:=⟨n - 1,zqO⟩
  rw[kA,List.all_map,List.all_eq_true]
  exact fun x _=>h.dok m x zqO,fun a b=>by rw[peq_ll,h.all]⟩
theorem gy {α:Type} {xs:List α} {i:Int} (h0:0≤i) (h1:i<xs.length):atI xs i=xs[i.toNat]?:=by
 unfold atI ixN
 simp[h0,h1]
theorem vi {α:Type} {xs:List α} {i:Nat} (h1:i<xs.length):atI xs i=xs[i]?:=by
 rw[gy zqO zqO,Int.toNat_natCast]
@[simp] theorem atI_0 {α:Type} (x:α) (xs:List α):atI (x::xs) 0=some x:=by rw[gy zqO zqS]; rfl
theorem l8 {α:Type} {x:α} {xs:List α} {i:Int} (h:0<i):atI (x::xs) i=atI xs (i - 1):=by
 unfold atI ixN
 by_cases hl:i<xs.length+1
 ·rw[if_pos zqO,if_pos (by simpa using hl),if_pos zqO,if_pos zqO]
  simp only[Option.bind_some]
  obtain ⟨j,rfl⟩:∃j:Nat,i=j+1:=⟨(i - 1).toNat,zqO⟩
  rw[show ((j:Int)+1).toNat=j+1 by omega,show ((j:Int)+1 - 1).toNat=j by omega]
  rfl
 ·rw[if_pos zqO,if_neg (by simpa using hl),if_pos zqO,if_neg zqO]; rfl
@[simp] theorem atI_1 {α:Type} (x:α) (xs:List α):atI (x::xs) 1=atI xs 0:=l8 zqO
@[simp] theorem atI_2 {α:Type} (x:α) (xs:List α):atI (x::xs) 2=atI xs 1:=l8 zqO
@[simp] theorem atI_3 {α:Type} (x:α) (xs:List α):atI (x::xs) 3=atI xs 2:=l8 zqO
@[simp] theorem atI_4 {α:Type} (x:α) (xs:List α):atI (x::xs) 4=atI xs 3:=l8 zqO
@[simp] theorem atI_5 {α:Type} (x:α) (xs:List α):atI (x::xs) 5=atI xs 4:=l8 zqO
@[simp] theorem atI_6 {α:Type} (x:α) (xs:List α):atI (x::xs) 6=atI xs 5:=l8 zqO
@[simp] theorem fIx_tup (S:Sto) (xs:List D) (i:Int):fIx S (.tup xs) (.int i)=atI xs i:=rfl
@[simp] theorem fIx_tpn (S:Sto) (xs:List D) (i:Int):fIx S (.tpn xs) (.int i)=atI xs i:=rfl
@[simp] theorem mw (S:Sto) (xs:List D) (i:Int):fIx S (.lst xs) (.int i)=atI xs i:=rfl
@[simp] theorem fIx_ro (S:Sto) (xs:List D) (i:Int):fIx S (.ro xs) (.int i)=atI xs i:=rfl
@[simp] theorem dctOf_dct (t:Bool) (kvs:List (D × D)):dE (some (.dct t kvs))=some (t,kvs):=rfl
@[simp] theorem dctOf_fdc (t:Bool) (kvs:List (D × D)):dE (some (.fdc t kvs))=some (t,kvs):=rfl
@[simp] theorem dctOf_lst (xs:List D):dE (some (.lst xs))=none:=rfl
@[simp] theorem dctOf_none:dE none=none:=rfl
theorem qD {α:Type} {xs:List α} {i:Int} (h0:0≤i) (h1:i<xs.length):∃x∈xs,atI xs i=some x:=by
 rw[gy h0 h1,List.getElem?_eq_getElem zqO]
 exact ⟨_,List.getElem_mem _,rfl⟩
@[simp] theorem fLen_tup (S:Sto) (xs:List D):b3 S [.tup xs]=some (.int xs.length):=rfl
@[simp] theorem fLen_tpn (S:Sto) (xs:List D):b3 S [.tpn xs]=some (.int xs.length):=rfl
@[simp] theorem fLen_lst (S:Sto) (xs:List D):b3 S [.lst xs]=some (.int xs.length):=rfl
@[simp] theorem fLen_ro (S:Sto) (xs:List D):b3 S [.ro xs]=some (.int xs.length):=rfl
theorem uK {S:Sto} {l:Nat} {xs:List D} (h:S[l]?=some (.lst xs)):b3 S [.loc l]=some (.int xs.length):=by simp[b3,h]
@[simp] theorem fInt_int (S:Sto) (i:Int):fInt S [.int i]=some (.int i):=rfl
@[simp] theorem fTup_lst (S:Sto) (xs:List D):jx S [.lst xs]=some (.tpn xs):=rfl
theorem k7 {S:Sto} {l:Nat} {xs:List D} (h:S[l]?=some (.lst xs)):jx S [.loc l]=some (.tpn xs):=by simp[jx,h]
@[simp] theorem fSum_ints (S:Sto) (xs:List Int):fSum S [.lst (xs.map .int)]=some (.int xs.sum):=by
 have h:ez (xs.map .int)=some xs:=by
  induction xs with
  | nil=>rfl
  | cons x xs ih=>simp[ez,ih]
 simp[fSum,h]
@[simp] theorem qE (S:Sto) (xs:List Bool):mX S [.lst (xs.map .bool)]=some (.bool (xs.all id)):=by
 have h:gt (xs.map .bool)=some xs:=by
  induction xs with
  | nil=>rfl
  | cons x xs ih=>simp[gt,ih]
 simp[mX,h]
@[simp] theorem fMax2_int (S:Sto) (i j:Int):fMax2 S [.int i,.int j]=some (.int (max i j)):=by
 unfold fMax2
 simp only[Option.some.injEq,D.int.injEq]
 split<;>omega
@[simp] theorem fMin2_int (S:Sto) (i j:Int):fMin2 S [.int i,.int j]=some (.int (min i j)):=by
 unfold fMin2
 simp only[Option.some.injEq,D.int.injEq]
 split<;>omega
@[simp] theorem dTru_bool (S:Sto) (b:Bool):fL S (.bool b)=some b:=rfl
@[simp] theorem dTru_tup (S:Sto) (xs:List D):fL S (.tup xs)=some (!xs.isEmpty):=rfl
@[simp] theorem dTru_lst (S:Sto) (xs:List D):fL S (.lst xs)=some (!xs.isEmpty):=rfl
@[simp] theorem dTru_int (S:Sto) (i:Int):fL S (.int i)=some (i != 0):=rfl
@[simp] theorem iterD_tup (S:Sto) (xs:List D):dS S (.tup xs)=some (.items xs):=by simp[dS]
@[simp] theorem iterD_tpn (S:Sto) (xs:List D):dS S (.tpn xs)=some (.items xs):=by simp[dS]
@[simp] theorem iterD_lst (S:Sto) (xs:List D):dS S (.lst xs)=some (.items xs):=by simp[dS]
@[simp] theorem iterD_ro (S:Sto) (xs:List D):dS S (.ro xs)=some (.items xs):=by simp[dS]
theorem ir {α:Type} (xs:List α) (i:Nat):cM xs (some (i:Int)) none=xs.drop i:=by
 unfold cM
 rw[HT.sIx_nat,HT.sIx_none]
 by_cases h:i≤xs.length
 ·rw[Nat.min_eq_left h]; exact List.take_of_length_le zqS
 ·rw[Nat.min_eq_right zqO,List.drop_length,List.drop_eq_nil_of_le zqO,List.take_nil]
theorem fz {α:Type} (xs:List α) (i:Nat):cM xs none (some (i:Int))=xs.take i:=by
 unfold cM
 rw[HT.sIx_nat,HT.sIx_none,List.drop_zero,Nat.sub_zero]
 by_cases h:i≤xs.length
 ·rw[Nat.min_eq_left h]
 ·rw[Nat.min_eq_right zqO,List.take_of_length_le (Nat.le_refl _),List.take_of_length_le zqO]
theorem jU {d:D} {xs:List D} (h:d=.tup xs∨d=.tpn xs) (lo hi:Option Int):∃d',jw d lo hi=some d'∧(d'=.tup (cM xs lo hi)∨d'=.tpn (cM xs lo hi)):=by
 rcases h with rfl|rfl
 ·exact ⟨_,rfl,.inl rfl⟩
 ·refine ⟨_,rfl,?_⟩
  split
  ·rename_i h
   right
   congr 1
   unfold cM
   rw[h.1,h.2]
   simp
  ·exact .inl rfl
@[simp] theorem fCut_lst (xs:List D) (lo hi:Option Int):jw (.lst xs) lo hi=some (.lst (cM xs lo hi)):=rfl
@[simp] theorem fCut_tup (xs:List D) (lo hi:Option Int):jw (.tup xs) lo hi=some (.tup (cM xs lo hi)):=rfl
@[simp] theorem keyOk_int (i:Int):cp false (.int i)=true:=rfl
@[simp] theorem keyOk_str (i:Str):cp false (.str i)=true:=rfl
theorem rD {τ:Type} (f:τ→D):∀xs ys:List τ,eA (xs.map f) (ys.map f)=(xs.zip ys).map fun p=>D.tup [f p.1,f p.2]
 | [],ys=>by cases ys<;>rfl
 | x::xs,[]=>rfl
 | x::xs,y::ys=>by simp[eA,rD f xs ys]
theorem k8 {τ:Type} (f:τ→D):∀(xs:List τ) (n:Nat),dU n (xs.map f)=(xs.zipIdx n).map fun p=>D.tup [.int (p.2:Nat),f p.1]
 | [],_=>rfl
 | x::xs,n=>by simp[dU,k8 f xs (n+1)]
@[simp] theorem cMul_l2 (j:Int):bV 2 j=true:=by simp[bV]
@[simp] theorem cMul_r2 (j:Int):bV j 2=true:=by simp[bV]
@[simp] theorem cMul_l3 (j:Int):bV 3 j=true:=by simp[bV]
@[simp] theorem cMul_r3 (j:Int):bV j 3=true:=by simp[bV]
@[simp] theorem cMul_l5 (j:Int):bV 5 j=true:=by simp[bV]
@[simp] theorem cMul_r5 (j:Int):bV j 5=true:=by simp[bV]
@[simp] theorem cMul_l7 (j:Int):bV 7 j=true:=by simp[bV]
@[simp] theorem cMul_r7 (j:Int):bV j 7=true:=by simp[bV]
@[simp] theorem cMul_l10 (j:Int):bV 10 j=true:=by simp[bV]
@[simp] theorem cMul_r10 (j:Int):bV j 10=true:=by simp[bV]
@[simp] theorem cMul_l20 (j:Int):bV 20 j=true:=by simp[bV]
@[simp] theorem cMul_r20 (j:Int):bV j 20=true:=by simp[bV]
@[simp] theorem cMul_l30 (j:Int):bV 30 j=true:=by simp[bV]
@[simp] theorem cMul_r30 (j:Int):bV j 30=true:=by simp[bV]
@[simp] theorem cMul_l60 (j:Int):bV 60 j=true:=by simp[bV]
@[simp] theorem cMul_r60 (j:Int):bV j 60=true:=by simp[bV]
@[simp] theorem cMul_l100 (j:Int):bV 100 j=true:=by simp[bV]
@[simp] theorem cMul_r100 (j:Int):bV j 100=true:=by simp[bV]
@[simp] theorem cMul_l1440 (j:Int):bV 1440 j=true:=by simp[bV]
@[simp] theorem cMul_r1440 (j:Int):bV j 1440=true:=by simp[bV]
@[simp] theorem wF (j:Int):bV 48271 j=true:=by simp[bV]
@[simp] theorem wG (j:Int):bV j 48271=true:=by simp[bV]
@[simp] theorem cMod_2 (j:Int):dj j 2=true:=by simp[dj]
@[simp] theorem cMod_3 (j:Int):dj j 3=true:=by simp[dj]
@[simp] theorem cMod_4 (j:Int):dj j 4=true:=by simp[dj]
@[simp] theorem cMod_7 (j:Int):dj j 7=true:=by simp[dj]
@[simp] theorem cMod_100 (j:Int):dj j 100=true:=by simp[dj]
@[simp] theorem cMod_1440 (j:Int):dj j 1440=true:=by simp[dj]
@[simp] theorem sV (j:Int):dj j 2147483647=true:=by simp[dj]
@[simp] theorem cDiv_2 (j:Int):iA j 2=true:=by simp[iA]
@[simp] theorem cDiv_4 (j:Int):iA j 4=true:=by simp[iA]
@[simp] theorem cDiv_7 (j:Int):iA j 7=true:=by simp[iA]
@[simp] theorem cDiv_100 (j:Int):iA j 100=true:=by simp[iA]
@[simp] theorem cDiv_1440 (j:Int):iA j 1440=true:=by simp[iA]
@[simp] theorem smallI_0:bN 0=true:=smallI_iff.mpr zqC
@[simp] theorem smallI_1:bN 1=true:=smallI_iff.mpr zqC
@[simp] theorem smallI_2:bN 2=true:=smallI_iff.mpr zqC
@[simp] theorem smallI_3:bN 3=true:=smallI_iff.mpr zqC
@[simp] theorem smallI_4:bN 4=true:=smallI_iff.mpr zqC
@[simp] theorem smallI_5:bN 5=true:=smallI_iff.mpr zqC
@[simp] theorem smallI_7:bN 7=true:=smallI_iff.mpr zqC
@[simp] theorem smallI_8:bN 8=true:=smallI_iff.mpr zqC
theorem qF {i j:Int} (h : -18446744073709551616<i∧i<18446744073709551616):bV i j=true:=by
 simp[bV,h.1,h.2]
theorem fe {i:Int} (h : -4611686018427387904≤i∧i<4611686018427387904):bN i=true:=by
 exact smallI_iff.mpr ⟨by omega,zqO⟩
@[simp] theorem set_concat {α:Type} (T:List α) (x y:α):(T++[x]).set T.length y=T++[y]:=by
 rw[List.set_append_right _ _ (Nat.le_refl _)]; simp
@[simp] theorem wipe_nil (e:En):aa e []=e:=rfl
@[simp] theorem wipe_cons (e:En) (v:Nat) (vs:List Nat):aa e (v::vs)=(aa e vs).set v none:=rfl
section
variable {N B B2:En→Sto→Prop} {R:D→Sto→Prop} {E:XV→Sto→Prop}
@[simp ↓] theorem wq_eBin (f:Sto→D→D→Option D) (ma mb:ME) (env:En) (S:Sto) {Q:D→Sto→Prop}:Res.wp (aJ f ma mb env S) Q E=Res.wp ((ma env S).bind fun a S=>(mb env S).bind fun b S=>ofO S (f S a b)) Q E:=rfl
@[simp ↓] theorem wq_tOf (m:ME) (env:En) (S:Sto) {Q:Bool→Sto→Prop}:Res.wp (tOf m env S) Q E=Res.wp ((m env S).bind fun d S=>match d with
 | .bool b=>.ok b S
 | _=>.stuck) Q E:=rfl
@[simp ↓] theorem wq_pNo (x0:En) (S:Sto) {Q:Option Int→Sto→Prop}:Res.wp (pNo  x0 S) Q E=Res.wp (.ok none S) Q E:=rfl
@[simp ↓] theorem wq_pSome (m:ME) (env:En) (S:Sto) {Q:Option Int→Sto→Prop}:Res.wp (cq m env S) Q E=Res.wp ((m env S).bind fun d S=>match d with
 | .int i=>.ok (some i) S
 | _=>.stuck) Q E:=rfl
@[simp ↓] theorem wq_eCut (m:ME) (ml mh:MP) (env:En) (S:Sto) {Q:D→Sto→Prop}:Res.wp (kM m ml mh env S) Q E=Res.wp ((m env S).bind fun d S=>(ml env S).bind fun lo S=>(mh env S).bind fun hi S=>ofO S (jw (view0 S d) lo hi)) Q E:=rfl
@[simp ↓] theorem wq_eC (d:D) (x0:En) (S:Sto) {Q:D→Sto→Prop}:Res.wp (eC d x0 S) Q E=Res.wp (.ok d S) Q E:=rfl
@[simp ↓] theorem wq_eV (i:Nat) (env:En) (S:Sto) {Q:D→Sto→Prop}:Res.wp (eV i env S) Q E=Res.wp (match env[i]? with
 | some (some d)=>.ok d S
 | _=>.stuck) Q E:=rfl
@[simp ↓] theorem wq_tTru (m:ME) (env:En) (S:Sto) {Q:Bool→Sto→Prop}:Res.wp (b7 m env S) Q E=Res.wp ((m env S).bind fun d S=>ofO S (fL S d)) Q E:=rfl
@[simp ↓] theorem wq_tAndM (ma mb:MT) (env:En) (S:Sto) {Q:Bool→Sto→Prop}:Res.wp (nh ma mb env S) Q E=Res.wp ((ma env S).bind fun c S=>if c=true then mb env S else .ok false S) Q E:=rfl
@[simp ↓] theorem wq_tOrM (ma mb:MT) (env:En) (S:Sto) {Q:Bool→Sto→Prop}:Res.wp (cF ma mb env S) Q E=Res.wp ((ma env S).bind fun c S=>if c=true then .ok true S else mb env S) Q E:=rfl
@[simp ↓] theorem wq_tNotM (ma:MT) (env:En) (S:Sto) {Q:Bool→Sto→Prop}:Res.wp (az ma env S) Q E=Res.wp ((ma env S).bind fun c S=>.ok (!c) S) Q E:=rfl
@[simp ↓] theorem wq_eAnd (ma mb:ME) (env:En) (S:Sto) {Q:D→Sto→Prop}:Res.wp (gR ma mb env S) Q E=Res.wp ((ma env S).bind fun d S=>(ofO S (fL S d)).bind fun c S=>if c=true then mb env S else .ok d S) Q E:=rfl
@[simp ↓] theorem wq_eOr (ma mb:ME) (env:En) (S:Sto) {Q:D→Sto→Prop}:Res.wp (eOr ma mb env S) Q E=Res.wp ((ma env S).bind fun d S=>(ofO S (fL S d)).bind fun c S=>if c=true then .ok d S else mb env S) Q E:=rfl
@[simp ↓] theorem wq_eNot (ma:ME) (env:En) (S:Sto) {Q:D→Sto→Prop}:Res.wp (eNot ma env S) Q E=Res.wp ((ma env S).bind fun d S=>(ofO S (fL S d)).bind fun c S=>.ok (.bool (!c)) S) Q E:=rfl
@[simp ↓] theorem wq_eIf (tc:MT) (ma mb:ME) (env:En) (S:Sto) {Q:D→Sto→Prop}:Res.wp (eIf tc ma mb env S) Q E=Res.wp ((tc env S).bind fun c S=>if c=true then ma env S else mb env S) Q E:=rfl
@[simp ↓] theorem wq_eNeg (ma:ME) (env:En) (S:Sto) {Q:D→Sto→Prop}:Res.wp (eNeg ma env S) Q E=Res.wp ((ma env S).bind fun d S=>match d with
 | .int i=>.ok (.int (-i)) S
 | _=>.stuck) Q E:=rfl
@[simp ↓] theorem wq_eChain (f g:Sto→D→D→Option D) (ma mb mc:ME) (env:En) (S:Sto) {Q:D→Sto→Prop}:Res.wp (gT f g ma mb mc env S) Q E=Res.wp ((ma env S).bind fun a S=>(mb env S).bind fun b S=>match f S a b with
 | some (.bool true)=>(mc env S).bind fun c S=>ofO S (g S b c)
 | some (.bool false)=>.ok (.bool false) S
 | _=>.stuck) Q E:=rfl
@[simp ↓] theorem wq_aNil (x0:En) (S:Sto) {Q:List D→Sto→Prop}:Res.wp (aH  x0 S) Q E=Res.wp (.ok [] S) Q E:=rfl
@[simp ↓] theorem wq_aCons (m:ME) (r:MA) (env:En) (S:Sto) {Q:List D→Sto→Prop}:Res.wp (aB m r env S) Q E=Res.wp ((m env S).bind fun d S=>(r env S).bind fun ds S=>.ok (d::ds) S) Q E:=rfl
@[simp ↓] theorem wq_eTup (r:MA) (env:En) (S:Sto) {Q:D→Sto→Prop}:Res.wp (cN r env S) Q E=Res.wp ((r env S).bind fun ds S=>if ds.length≤1000000 then .ok (.tup ds) S else .stuck) Q E:=rfl
@[simp ↓] theorem wq_eLst (r:MA) (env:En) (S:Sto) {Q:D→Sto→Prop}:Res.wp (cO r env S) Q E=Res.wp ((r env S).bind fun ds S=>if ds.length≤1000000 then .ok (.lst ds) S else .stuck) Q E:=rfl
@[simp ↓] theorem wq_eLstM (r:MA) (env:En) (S:Sto) {Q:D→Sto→Prop}:Res.wp (lp r env S) Q E=Res.wp ((r env S).bind fun ds S=>if ds.length≤1000000 then .ok (.loc S.length) (S++[.lst ds]) else .stuck) Q E:=rfl
@[simp ↓] theorem wq_eDct (t:Bool) (x0:En) (S:Sto) {Q:D→Sto→Prop}:Res.wp (eDct t x0 S) Q E=Res.wp (.ok (.loc S.length) (S++[.dct t []])) Q E:=rfl
@[simp ↓] theorem wq_sNil (env:En) (S:Sto):RS.wp (bp  env S) N R E B B2=RS.wp (.next env S) N R E B B2:=rfl
@[simp ↓] theorem wq_sSeq (a b:MS) (env:En) (S:Sto):RS.wp (aV a b env S) N R E B B2=RS.wp ((a env S).andThen b) N R E B B2:=rfl
@[simp ↓] theorem wq_sExpr (m:ME) (env:En) (S:Sto):RS.wp (eq m env S) N R E B B2=RS.wp ((m env S).rs env fun _ S=>.next env S) N R E B B2:=rfl
@[simp ↓] theorem wq_sRet (m:ME) (env:En) (S:Sto):RS.wp (bW m env S) N R E B B2=RS.wp ((m env S).rs env fun d S=>.ret d S) N R E B B2:=rfl
@[simp ↓] theorem wq_sRetN (x0:En) (S:Sto):RS.wp (sRetN  x0 S) N R E B B2=RS.wp (.ret .none S) N R E B B2:=rfl
@[simp ↓] theorem wq_sBreak (env:En) (S:Sto):RS.wp (tB  env S) N R E B B2=RS.wp (.brk env S) N R E B B2:=rfl
@[simp ↓] theorem wq_sCont (env:En) (S:Sto):RS.wp (sCont  env S) N R E B B2=RS.wp (.cont env S) N R E B B2:=rfl
@[simp ↓] theorem wq_sStuck (x0:En) (x1:Sto):RS.wp (kO  x0 x1) N R E B B2=RS.wp (.stuck) N R E B B2:=rfl
@[simp ↓] theorem wq_eStuck (x0:En) (x1:Sto) {Q:D→Sto→Prop}:Res.wp (tC  x0 x1) Q E=Res.wp (.stuck) Q E:=rfl
@[simp ↓] theorem uL (tc:MT) (a b:MS) (env:En) (S:Sto):RS.wp (sIf tc a b env S) N R E B B2=RS.wp ((tc env S).rs env fun c S=>if c=true then a env S else b env S) N R E B B2:=rfl
@[simp ↓] theorem wq_sAsg (m:ME) (g:MG) (env:En) (S:Sto):RS.wp (lU m g env S) N R E B B2=RS.wp ((m env S).rs env fun d S=>ofG (g d env S)) N R E B B2:=rfl
@[simp ↓] theorem wq_sPar (i j:Nat) (r:MA) (env:En) (S:Sto):RS.wp (pO i j r env S) N R E B B2=RS.wp ((r env S).rs env fun ds S=>match ds with
 | [a,b]=>.next ((env.set i (some a)).set j (some b)) S
 | _=>.stuck) N R E B B2:=rfl
@[simp ↓] theorem wq_sSet (i:Nat) (m:ME) (env:En) (S:Sto):RS.wp (ap i m env S) N R E B B2=RS.wp ((m env S).rs env fun d S=>.next (env.set i (some d)) S) N R E B B2:=rfl
@[simp ↓] theorem wq_sAug (i:Nat) (f:Sto→D→D→Option D) (m:ME) (env:En) (S:Sto):RS.wp (sAug i f m env S) N R E B B2=RS.wp (match env[i]? with
 | some (some a)=>(m env S).rs env fun b S=>match f S a b with
  | some d=>.next (env.set i (some d)) S
  | none=>.stuck
 | _=>.stuck) N R E B B2:=rfl
@[simp ↓] theorem wq_iAny (m:ME) (env:En) (S:Sto) {Q:ItD→Sto→Prop}:Res.wp (fR m env S) Q E=Res.wp ((m env S).bind fun d S=>ofO S (dS S d)) Q E:=rfl
@[simp ↓] theorem wq_iRng1D (r:MA) (env:En) (S:Sto) {Q:ItD→Sto→Prop}:Res.wp (dz r env S) Q E=Res.wp ((r env S).bind fun ds S=>match ds with
 | [.int j]=>if bN j then .ok (.items (jH 0 j.toNat)) S else .stuck
 | _=>.stuck) Q E:=rfl
@[simp ↓] theorem wq_iRng2D (r:MA) (env:En) (S:Sto) {Q:ItD→Sto→Prop}:Res.wp (tH r env S) Q E=Res.wp ((r env S).bind fun ds S=>match ds with
 | [.int i,.int j]=>if bN i&&bN j then .ok (.items (jH i (j - i).toNat)) S else .stuck
 | _=>.stuck) Q E:=rfl
@[simp ↓] theorem wq_iEnumD (r:MA) (env:En) (S:Sto) {Q:ItD→Sto→Prop}:Res.wp (kQ r env S) Q E=Res.wp ((r env S).bind fun ds S=>match ds.map vt with
 | [.tup xs]=>.ok (.items (dU 0 xs)) S
 | [.lst xs]=>.ok (.items (dU 0 xs)) S
 | [.loc l]=>match S[l]? with
  | some (.lst _)=>.ok (.liveE l) S
  | _=>.stuck
 | _=>.stuck) Q E:=rfl
@[simp ↓] theorem wq_iZipD (r:MA) (env:En) (S:Sto) {Q:ItD→Sto→Prop}:Res.wp (ql r env S) Q E=Res.wp ((r env S).bind fun ds S=>match ds.map vt with
 | [.tup xs,.tup ys]=>.ok (.items (eA xs ys)) S
 | [.lst xs,.lst ys]=>.ok (.items (eA xs ys)) S
 | _=>.stuck) Q E:=rfl
@[simp ↓] theorem wq_sFor (mi:MI) (g:MG) (b:MS) (env:En) (S:Sto):RS.wp (jK mi g b env S) N R E B B2=RS.wp ((mi env S).rs env fun it S=>match it with
 | .items ds=>gX g b ds env S
 | .live l=>jj g b l (ie S l+1) 0 env S
 | .liveE l=>jk g b l (ie S l+1) 0 env S) N R E B B2:=rfl
@[simp ↓] theorem wq_compR (mi:MI) (g:MG) (tc:MT) (m:ME) (vs:List Nat) (env:En) (S:Sto) {Q:List D→Sto→Prop}:Res.wp (gY mi g tc m vs env S) Q E=Res.wp ((mi env S).bind fun it S=>match it with
 | .items ds=>dM g tc m (aa env vs) ds [] S
 | .live l=>kT g tc m (aa env vs) l (ie S l+1) 0 [] S
 | .liveE l=>kU g tc m (aa env vs) l (ie S l+1) 0 [] S) Q E:=rfl
@[simp ↓] theorem wq_eComp (mi:MI) (g:MG) (tc:MT) (m:ME) (vs:List Nat) (env:En) (S:Sto) {Q:D→Sto→Prop}:Res.wp (cE mi g tc m vs env S) Q E=Res.wp ((gY mi g tc m vs env S).bind fun ds S=>.ok (.lst ds) S) Q E:=rfl
@[simp ↓] theorem wq_eCompM (mi:MI) (g:MG) (tc:MT) (m:ME) (vs:List Nat) (env:En) (S:Sto) {Q:D→Sto→Prop}:Res.wp (tJ mi g tc m vs env S) Q E=Res.wp ((gY mi g tc m vs env S).bind fun ds S=>.ok (.loc S.length) (S++[.lst ds])) Q E:=rfl
@[simp ↓] theorem wq_tYesM (x0:En) (S:Sto) {Q:Bool→Sto→Prop}:Res.wp (b5  x0 S) Q E=Res.wp (.ok true S) Q E:=rfl
@[simp ↓] theorem wq_chk (n:Nat) (m:MF) (ds:List D) (S:Sto) {Q:D→Sto→Prop}:Res.wp (chk n m ds S) Q E=Res.wp (if ds.length=n then m ds S else .stuck) Q E:=rfl
@[simp ↓] theorem wq_eCall (n:Nat) (m:MF) (r:MA) (env:En) (S:Sto) {Q:D→Sto→Prop}:Res.wp (aR n m r env S) Q E=Res.wp ((r env S).bind fun ds S=>chk n m ds S) Q E:=rfl
@[simp ↓] theorem wq_eMeth (cn nm:Str) (n:Nat) (m:MF) (ma:ME) (r:MA) (env:En) (S:Sto) {Q:D→Sto→Prop}:Res.wp (ka cn nm n m ma r env S) Q E=Res.wp ((ma env S).bind fun d S=>match d with
 | .loc l=>match S[l]? with
  | some (.ins C fs)=>if C=cn∧(fs.map (·.1)).contains nm=false then (r env S).bind fun ds S=>chk n m (.loc l::ds) S else .stuck
  | _=>.stuck
 | _=>.stuck) Q E:=rfl
@[simp ↓] theorem wq_eMake (cn:Str) (n:Nat) (mi:MF) (r:MA) (env:En) (S:Sto) {Q:D→Sto→Prop}:Res.wp (iH cn n mi r env S) Q E=Res.wp ((r env S).bind fun ds S=>(chk n mi (.loc S.length::ds) (S++[.ins cn []])).bind fun d S'=>match d with
 | .none=>.ok (.loc S.length) S'
 | _=>.stuck) Q E:=rfl
@[simp ↓] theorem wq_eFld (cn f:Str) (ma:ME) (env:En) (S:Sto) {Q:D→Sto→Prop}:Res.wp (eFld cn f ma env S) Q E=Res.wp ((ma env S).bind fun d S=>match d with
 | .loc l=>match S[l]? with
  | some (.ins C fs)=>if C=cn then ofO S (fs.lookup f) else .stuck
  | _=>.stuck
 | _=>.stuck) Q E:=rfl
@[simp ↓] theorem wq_sFldM (cn f:Str) (ma mv:ME) (env:En) (S:Sto):RS.wp (n0 cn f ma mv env S) N R E B B2=RS.wp ((mv env S).rs env fun d S=>(ma env S).rs env fun o S=>match o with
 | .loc l=>match S[l]? with
  | some (.ins C fs)=>if C=cn∧fs.length<1000 then .next env (S.set l (.ins C (iD f d fs))) else .stuck
  | _=>.stuck
 | _=>.stuck) N R E B B2:=rfl
@[simp ↓] theorem wq_eB (f:BF) (r:MA) (env:En) (S:Sto) {Q:D→Sto→Prop}:Res.wp (eB f r env S) Q E=Res.wp ((r env S).bind fun ds S=>ofO S (f S ds)) Q E:=rfl
@[simp ↓] theorem wq_eM (ok:Sto→D→Bool) (f:BM) (ma:ME) (r:MA) (env:En) (S:Sto) {Q:D→Sto→Prop}:Res.wp (eM ok f ma r env S) Q E=Res.wp ((ma env S).bind fun d S=>if ok S d then (r env S).bind fun ds S=>match f S d ds with
 | some p=>.ok p.1 p.2
 | none=>.stuck else .stuck) Q E:=rfl
@[simp ↓] theorem wq_eRev (m:ME) (env:En) (S:Sto) {Q:D→Sto→Prop}:Res.wp (eRev m env S) Q E=Res.wp ((m env S).bind fun d S=>match view S d with
 | .lst xs=>.ok (.lst xs.reverse) S
 | _=>.stuck) Q E:=rfl
@[simp ↓] theorem wq_eDictP (r:MA) (env:En) (S:Sto) {Q:D→Sto→Prop}:Res.wp (tR r env S) Q E=Res.wp ((r env S).bind fun ds S=>match ds with
 | [.tpn xs]=>match gu xs with
  | some ps=>if xs.length≤1000000 then .ok (.loc S.length) (S++[.dct false (eF [] ps)]) else .stuck
  | none=>.stuck
 | _=>.stuck) Q E:=rfl
@[simp ↓] theorem wq_eDComp (mi:MI) (g:MG) (tc:MT) (mk mv:ME) (vs:List Nat) (env:En) (S:Sto) {Q:D→Sto→Prop}:Res.wp (kj mi g tc mk mv vs env S) Q E=Res.wp ((mi env S).bind fun it S=>match it with
 | .items ds=>(eG g tc mk mv (aa env vs) ds [] S).bind kD
 | .live _=>.stuck
 | .liveE _=>.stuck) Q E:=rfl
@[simp ↓] theorem wq_sRaise (C:Str) (env:En) (S:Sto):RS.wp (gZ C env S) N R E B B2=RS.wp (.exc ⟨C,[]⟩ env S) N R E B B2:=rfl
@[simp ↓] theorem wq_eKind (hd:Hdr) (m:ME) (env:En) (S:Sto) {Q:D→Sto→Prop}:Res.wp (oA hd m env S) Q E=Res.wp (fY hd (m env S)) Q E:=rfl
@[simp ↓] theorem wq_kD (kvs:List (D × D)) (S:Sto) {Q:D→Sto→Prop}:Res.wp (kD kvs S) Q E=Res.wp (.ok (.loc S.length) (S++[.dct false kvs])) Q E:=rfl
end
def dlt (a b:D):Bool:=PySem.W.dataLt (pdF a) (pdF b)
def dX (xs ys:List D):Bool:=PySem.W.rowLt (pdFs xs) (pdFs ys)
def alk (a b:D):Bool:=PySem.W.alike (pdF a) (pdF b)
def dY (xs ys:List D):Bool:=PySem.W.alikeAll (pdFs xs) (pdFs ys)
@[simp] theorem alk_int (i j:Int):alk (.int i) (.int j)=true:=by simp[alk,pdF,PySem.W.alike]
@[simp] theorem alk_str (i j:Str):alk (.str i) (.str j)=true:=by simp[alk,pdF,PySem.W.alike]
@[simp] theorem alk_tup (i j:List D):alk (.tup i) (.tup j)=dY i j:=by simp[alk,dY,pdF,PySem.W.alike]
@[simp] theorem alk_tpn (i j:List D):alk (.tpn i) (.tpn j)=dY i j:=by simp[alk,dY,pdF,PySem.W.alike]
@[simp] theorem alk_lst (i j:List D):alk (.lst i) (.lst j)=dY i j:=by simp[alk,dY,pdF,PySem.W.alike]
@[simp] theorem wH (x y:D) (i j:List D):dY (x::i) (y::j)=(alk x y&&dY i j):=by simp[alk,dY,pdFs,PySem.W.alikeAll]
@[simp] theorem wI (j:List D):dY [] j=true:=by simp[dY,pdFs,PySem.W.alikeAll]
@[simp] theorem wJ (j:List D):dY j []=true:=by cases j<;>simp[dY,pdFs,PySem.W.alikeAll]
@[simp] theorem dlt_int (i j:Int):dlt (.int i) (.int j)=decide (i<j):=by unfold dlt pdF; rw[PySem.W.dataLt_int]
@[simp] theorem dlt_str (i j:Str):dlt (.str i) (.str j)=decide (i.cps.toList<j.cps.toList):=by unfold dlt pdF; rw[PySem.W.dataLt_str]
@[simp] theorem dlt_tup (i j:List D):dlt (.tup i) (.tup j)=dX i j:=by unfold dlt pdF; rw[PySem.W.dataLt_tuple]; rfl
@[simp] theorem dlt_tpn (i j:List D):dlt (.tpn i) (.tpn j)=dX i j:=by unfold dlt pdF; rw[PySem.W.dataLt_tuple]; rfl
@[simp] theorem dlt_tp (i j:List D):dlt (.tup i) (.tpn j)=dX i j:=by unfold dlt pdF; rw[PySem.W.dataLt_tuple]; rfl
@[simp] theorem dlt_pt (i j:List D):dlt (.tpn i) (.tup j)=dX i j:=by unfold dlt pdF; rw[PySem.W.dataLt_tuple]; rfl
@[simp] theorem dltAll_nil:dX [] []=false:=by unfold dX PySem.W.rowLt; exact lex_irrefl _
theorem jp {x y:D} (h:alk x y=true) (i j:List D):dX (x::i) (y::j)=if peq x y=true then dX i j else dlt x y:=by
 simp only[dX,PySem.W.rowLt,pdFs]
 exact PySem.W.dataLt_cons h _ _
@[simp] theorem dltAll_int (x y:Int) (i j:List D):dX (.int x::i) (.int y::j)=if x=y then dX i j else decide (x<y):=by
 rw[jp zqS]; simp
@[simp] theorem dltAll_str (x y:Str) (i j:List D):dX (.str x::i) (.str y::j)=if x=y then dX i j else decide (x.cps.toList<y.cps.toList):=by
 rw[jp zqS]; simp
@[simp] theorem sortOf_lst (S:Sto) (xs:List D):pZ S (.lst xs)=some xs:=rfl
/-- the dict that is told by d -/
def rE (S:Sto) (d:D) (f:Nat→Bool→List (D × D)→Prop) (_:Dum f:=.mk) (_:True:=trivial):Prop:=match d with
 | .loc l=>match S[l]? with
  | some (.dct t kvs)=>f l t kvs
  | _=>False
 | _=>False
section
variable {N B C:En→Sto→Prop} {R:D→Sto→Prop} {E:XV→Sto→Prop} {Q:D→Sto→Prop}
@[simp ↓] theorem wq_eLock (ml mb:ME) (env:En) (S:Sto):Res.wp (eLock ml mb env S) Q E=Res.wp (ml env S) (fun d _=>rE S d fun l t kvs=>Res.wp (mb env (S.set l (.fdc t kvs))) (fun d S'=>Q d (S'.set l (.dct t kvs))) NoE) NoE:=by
 unfold eLock
 cases ml env S with
 | exc _ _=>simp
 | stuck=>simp
 | ok d S1=>
  rw[fc]
  cases d<;>simp only[rE,ky]
  rename_i l
  cases S[l]? with
  | none=>simp
  | some o=>
   cases o<;>simp only[ky]
   cases mb env _<;>simp
@[simp ↓] theorem wq_sLock (ml:ME) (mb:MS) (env:En) (S:Sto):RS.wp (sLock ml mb env S) N R E B C=Res.wp (ml env S) (fun d _=>rE S d fun l t kvs=>RS.wp (mb env (S.set l (.fdc t kvs))) (fun e S'=>N e (S'.set l (.dct t kvs))) (fun d S'=>R d (S'.set l (.dct t kvs))) NoE (fun e S'=>B e (S'.set l (.dct t kvs))) (fun e S'=>C e (S'.set l (.dct t kvs)))) NoE:=by
 unfold sLock
 cases ml env S with
 | exc _ _=>simp
 | stuck=>simp
 | ok d S1=>
  rw[fc]
  cases d<;>simp only[rE,jT]
  rename_i l
  cases S[l]? with
  | none=>simp
  | some o=>
   cases o<;>simp only[jT]
   cases mb env _<;>simp
end
@[simp ↓] theorem wK (m:ME) (i:Nat) (mk:ME) (env:En) (S:Sto) {Q:D→Sto→Prop} {E:XV→Sto→Prop}:Res.wp (t6 m i mk env S) Q E=Res.wp ((m env S).bind fun d S=>match pZ S d with
 | some xs=>(t4 mk i env xs [] S).bindS fun ks S=>if tQ ks=true∧xs.length≤1000000 then .ok (.loc S.length) (S++[.lst (t5 xs ks)]) else .stuck
 | none=>.stuck) Q E:=rfl
@[simp ↓] theorem wp_bindS {α β:Type} {r:Res β} {f:β→Sto→Res α} {Q:α→Sto→Prop} {E:XV→Sto→Prop}:Res.wp (r.bindS f) Q E=Res.wp r (fun a S=>Res.wp (f a S) Q E) NoE:=by cases r<;>simp[Res.bindS]
section
variable {Q:D→Sto→Prop} {E:XV→Sto→Prop}
@[simp ↓] theorem wq_eGet (md mk mz:ME) (env:En) (S:Sto):Res.wp (eGet md mk mz env S) Q E=Res.wp ((md env S).bind fun d S=>if isD S d=true then (mk env S).bind fun k S=>(mz env S).bind fun z S=>ofO S (t7 S d k z) else .stuck) Q E:=rfl
@[simp] theorem eGet_at (md mk mz:ME) (env:En) (S:Sto):eGet md mk mz env S=((md env S).bind fun d S=>if isD S d=true then (mk env S).bind fun k S=>(mz env S).bind fun z S=>ofO S (t7 S d k z) else .stuck):=rfl
/-- what setdefault does at last -/
def kSetd (l:Nat) (k z:D) (S:Sto):Res D:=match S[l]? with
  | some (.dct false kvs)=>if cp false k=true∧kvs.length<1000000 then (match iF false kvs k with
   | some v=>.ok v S
   | none=>.ok z (S.set l (.dct false (kh false kvs k z)))) else .stuck
  | _=>.stuck
def uM (d k z:D) (S:Sto):Res D:=match d with
 | .loc l=>kSetd l k z S
 | _=>.stuck
@[simp] theorem kSetD_loc (l:Nat) (k z:D) (S:Sto):uM (.loc l) k z S=kSetd l k z S:=rfl
theorem uN (md mk mz:ME) (env:En) (S:Sto):eSetd md mk mz env S=((md env S).bind fun d S=>if isD S d=true then (mk env S).bind fun k S=>(mz env S).bind fun z S=>uM d k z S else .stuck):=rfl
@[simp ↓] theorem wq_eSetd (md mk mz:ME) (env:En) (S:Sto):Res.wp (eSetd md mk mz env S) Q E=Res.wp ((md env S).bind fun d S=>if isD S d=true then (mk env S).bind fun k S=>(mz env S).bind fun z S=>uM d k z S else .stuck) Q E:=by rw[uN]
@[simp ↓] theorem wq_eCallD (n:Nat) (d:D) (m:MF) (r:MA) (env:En) (S:Sto):Res.wp (km n d m r env S) Q E=Res.wp ((r env S).bind fun ds S=>chk n m (ds++[d]) S) Q E:=rfl
@[simp ↓] theorem wq_eCallK (n k:Nat) (m:MF) (r rk:MA) (env:En) (S:Sto):Res.wp (t8 n k m r rk env S) Q E=Res.wp ((r env S).bind fun ds S=>(rk env S).bind fun zs S=>if ds.length=k then chk n m (ds++zs) S else .stuck) Q E:=rfl
@[simp] theorem eCallD_at (n:Nat) (d:D) (m:MF) (r:MA) (env:En) (S:Sto):km n d m r env S=((r env S).bind fun ds S=>chk n m (ds++[d]) S):=rfl
@[simp] theorem eCallK_at (n k:Nat) (m:MF) (r rk:MA) (env:En) (S:Sto):t8 n k m r rk env S=((r env S).bind fun ds S=>(rk env S).bind fun zs S=>if ds.length=k then chk n m (ds++zs) S else .stuck):=rfl
end
@[simp] theorem sPar3_at (i j l:Nat) (r:MA) (env:En) (S:Sto):sPar3 i j l r env S=(r env S).rs env fun ds S=>match ds with
 | [a,b,c]=>.next (((env.set i (some a)).set j (some b)).set l (some c)) S
 | _=>.stuck:=rfl
@[simp ↓] theorem wq_sPar3 (i j l:Nat) (r:MA) (env:En) (S:Sto) {N B C:En→Sto→Prop} {R:D→Sto→Prop} {E:XV→Sto→Prop}:RS.wp (sPar3 i j l r env S) N R E B C=RS.wp ((r env S).rs env fun ds S=>match ds with
 | [a,b,c]=>.next (((env.set i (some a)).set j (some b)).set l (some c)) S
 | _=>.stuck) N R E B C:=rfl
@[simp] theorem isD_loc (S:Sto) (l:Nat):isD S (.loc l)=(dE S[l]?).isSome:=rfl
theorem get_at {α:Type} (S X:List α) (k:Nat):(S++X)[S.length+k]?=X[k]?:=by
 rw[List.getElem?_append_right zqO]
 congr 1; omega
theorem gz {α:Type} (S X:List α):(S++X)[S.length]?=X[0]?:=get_at S X 0
end DL
namespace DL
open PySem PySem.Spec PyProof.Rows L2
section
variable {N:En→Sto→Prop} {R:D→Sto→Prop} {E:XV→Sto→Prop} {B B2:En→Sto→Prop}
@[simp] theorem sRaiseF_at (C:Str) (ns:List Str) (r:MA) (env:En) (S:Sto):eQ C ns r env S=(r env S).rs env fun ds S=>if ds.length=ns.length∧ns≠[]∧ns.length≤1000 then .exc ⟨C,(ns.zip ds).reverse⟩ env S else .stuck:=rfl
@[simp ↓] theorem wq_sRaiseF (C:Str) (ns:List Str) (r:MA) (env:En) (S:Sto):RS.wp (eQ C ns r env S) N R E B B2=RS.wp ((r env S).rs env fun ds S=>if ds.length=ns.length∧ns≠[]∧ns.length≤1000 then .exc ⟨C,(ns.zip ds).reverse⟩ env S else .stuck) N R E B B2:=rfl
@[simp] theorem eMakeK_at (cn:Str) (n k:Nat) (mi:MF) (r rk:MA) (env:En) (S:Sto):uJ cn n k mi r rk env S=(r env S).bind fun ds S=>(rk env S).bind fun zs S=>if ds.length+1=k then (chk n mi (.loc S.length::(ds++zs)) (S++[.ins cn []])).bind (fun d S'=>match d with
 | .none=>.ok (.loc S.length) S'
 | _=>.stuck) else .stuck:=rfl
@[simp ↓] theorem wq_eMakeK (cn:Str) (n k:Nat) (mi:MF) (r rk:MA) (env:En) (S:Sto) {Q:D→Sto→Prop}:Res.wp (uJ cn n k mi r rk env S) Q E=Res.wp ((r env S).bind fun ds S=>(rk env S).bind fun zs S=>if ds.length+1=k then (chk n mi (.loc S.length::(ds++zs)) (S++[.ins cn []])).bind (fun d S'=>match d with
 | .none=>.ok (.loc S.length) S'
 | _=>.stuck) else .stuck) Q E:=rfl
end
def oM (cn f:Str) (op:Sto→D→D→Option D) (ma mv:ME):MS:=fun env S=>(ma env S).rs env fun o S=>match o with
 | .loc l=>match S[l]? with
  | some (.ins C fs)=>if C=cn then match fs.lookup f with
    | some a=>(mv env S).rs env fun b S=>match op S a b with
     | some d=>match S[l]? with
      | some (.ins C' fs')=>if C'=cn∧fs'.length<1000 then .next env (S.set l (.ins C' (iD f d fs'))) else .stuck
      | _=>.stuck
     | none=>.stuck
    | none=>.stuck
   else .stuck
  | _=>.stuck
 | _=>.stuck
def oN (op:Sto→D→D→Option D) (mo mi mv:ME):MS:=fun env S=>(mo env S).rs env fun o S=>match o with
 | .loc l=>(mi env S).rs env fun i S=>match fIx S (.loc l) i with
  | some a=>(mv env S).rs env fun b S=>match op S a b with
   | some d=>match eE S (.loc l) i d with
    | some S'=>.next env S'
    | none=>.stuck
   | none=>.stuck
  | none=>.stuck
 | _=>.stuck
def fMax3 (_:Sto) (ds:List D):Option D:=match ds with
 | [.int i,.int j,.int k]=>some (.int (if j>i then (if k>j then k else j) else (if k>i then k else i)))
 | _=>none
@[simp] theorem fMax3_int (S:Sto) (i j k:Int):fMax3 S [.int i,.int j,.int k]=some (.int (max (max i j) k)):=by
 unfold fMax3
 simp only[Option.some.injEq,D.int.injEq]
 split<;>split<;>omega
def l9 (m:ME):ME:=fun env S=>(m env S).bind fun d S=>match d with
 | .loc l=>match S[l]? with
  | some (.dct false kvs)=>.ok (.lst (kvs.map (·.2))) S
  | _=>.stuck
 | _=>.stuck
/-- the unlike ones of the first texts -/
def unl:List Str→List Str
 | []=>[]
 | x::r=>if x∈r then unl r else x::unl r
/-- how many unlike ones stand in the first i -/
def cntU (xs:List Str) (i:Nat):Nat:=(unl (xs.take i).reverse).length
/-- the texts of a list -/
def iS:List D→Option (List Str)
 | []=>some []
 | .str z::r=>(iS r).map (z::·)
 | _=>none
theorem k9:∀xs:List Str,iS (xs.map D.str)=some xs
 | []=>rfl
 | x::r=>by rw[List.map_cons,iS,k9 r]; rfl
def rF (m:ME):ME:=fun env S=>(m env S).bind fun d S=>match view S d with
 | .lst ds=>match iS ds with
  | some xs=>if xs.length≤100 then .ok (.int (cntU xs xs.length:Nat)) S else .stuck
  | none=>.stuck
 | _=>.stuck
def mB (p:D × D):D:=.tup [p.1,p.2]
def iItmD (m:ME):MI:=fun env S=>(m env S).bind fun d S=>match d with
 | .loc l=>match S[l]? with
  | some (.dct true kvs)=>.ok (.items (kvs.map mB)) (S.set l (.fdc true kvs))
  | some (.fdc false kvs)=>.ok (.items (kvs.map mB)) S
  | _=>.stuck
 | _=>.stuck
def uO (cn:Str) (n:Nat) (z:D) (mi:MF) (r:MA):ME:=fun env S=>(r env S).bind fun ds S=>(chk n mi (.loc S.length::(ds++[z])) (S++[.ins cn []])).bind fun d S'=>match d with
 | .none=>.ok (.loc S.length) S'
 | _=>.stuck
end DL
namespace DL
open PySem PySem.Spec PyProof.Rows L2 LamX PySem.W
end DL
namespace DL
open PySem PySem.Spec PyProof.Rows L2
def leS (a b:Str):Bool:=!decide (b.cps.toList<a.cps.toList)
def mC (S:Sto) (ds:List D):Option D:=match ds with
 | [.loc l]=>match dE S[l]? with
  | some (false,kvs)=>match iS (kvs.map (·.1)) with
   | some ks=>if ks.length<64 then some (.lst ((ks.mergeSort leS).map .str)) else none
   | none=>none
  | _=>none
 | _=>none
@[simp] theorem vj {S:Sto} {l:Nat} {kvs:List (D × D)} {ks:List Str} (h:dE S[l]?=some (false,kvs)) (hk:kvs.map (·.1)=ks.map D.str) (hl:ks.length<64):mC S [.loc l]=some (.lst ((ks.mergeSort leS).map .str)):=by
 unfold mC
 simp only[h,hk,k9,if_pos hl]
def eDictC (r:MA):ME:=fun env S=>(r env S).bind fun ds S=>match ds with
 | [.loc l]=>match dE S[l]? with
  | some (false,kvs)=>.ok (.loc S.length) (S++[.dct false kvs])
  | _=>.stuck
 | _=>.stuck
variable {Q:D→Sto→Prop} {E:XV→Sto→Prop}
@[simp] theorem eDictC_at (r:MA) (env:En) (S:Sto):eDictC r env S=(r env S).bind fun ds S=>match ds with
 | [.loc l]=>match dE S[l]? with
  | some (false,kvs)=>.ok (.loc S.length) (S++[.dct false kvs])
  | _=>.stuck
 | _=>.stuck:=rfl
end DL
namespace DL
open PySem PySem.Spec PyProof.Rows L2
def eDictL (r:MA):ME:=fun env S=>(r env S).bind fun ds S=>match ds with
 | [.lst xs]=>match gu xs with
  | some ps=>if xs.length≤1000000 then .ok (.loc S.length) (S++[.dct false (eF [] ps)]) else .stuck
  | none=>.stuck
 | _=>.stuck
@[simp] theorem eDictL_at (r:MA) (env:En) (S:Sto):eDictL r env S=(r env S).bind fun ds S=>match ds with
 | [.lst xs]=>match gu xs with
  | some ps=>if xs.length≤1000000 then .ok (.loc S.length) (S++[.dct false (eF [] ps)]) else .stuck
  | none=>.stuck
 | _=>.stuck:=rfl
section
variable {N:En→Sto→Prop} {R:D→Sto→Prop} {E:XV→Sto→Prop} {B B2:En→Sto→Prop} {Q:D→Sto→Prop}
@[simp] theorem wL (cn f:Str) (op:Sto→D→D→Option D) (ma mv:ME) (env:En) (S:Sto):oM cn f op ma mv env S=(ma env S).rs env fun o S=>match o with
 | .loc l=>match S[l]? with
  | some (.ins C fs)=>if C=cn then match fs.lookup f with
    | some a=>(mv env S).rs env fun b S=>match op S a b with
     | some d=>match S[l]? with
      | some (.ins C' fs')=>if C'=cn∧fs'.length<1000 then .next env (S.set l (.ins C' (iD f d fs'))) else .stuck
      | _=>.stuck
     | none=>.stuck
    | none=>.stuck
   else .stuck
  | _=>.stuck
 | _=>.stuck:=rfl
@[simp ↓] theorem wM (cn f:Str) (op:Sto→D→D→Option D) (ma mv:ME) (env:En) (S:Sto):RS.wp (oM cn f op ma mv env S) N R E B B2=RS.wp ((ma env S).rs env fun o S=>match o with
 | .loc l=>match S[l]? with
  | some (.ins C fs)=>if C=cn then match fs.lookup f with
    | some a=>(mv env S).rs env fun b S=>match op S a b with
     | some d=>match S[l]? with
      | some (.ins C' fs')=>if C'=cn∧fs'.length<1000 then .next env (S.set l (.ins C' (iD f d fs'))) else .stuck
      | _=>.stuck
     | none=>.stuck
    | none=>.stuck
   else .stuck
  | _=>.stuck
 | _=>.stuck) N R E B B2:=rfl
@[simp] theorem wN (op:Sto→D→D→Option D) (mo mi mv:ME) (env:En) (S:Sto):oN op mo mi mv env S=(mo env S).rs env fun o S=>match o with
 | .loc l=>(mi env S).rs env fun i S=>match fIx S (.loc l) i with
  | some a=>(mv env S).rs env fun b S=>match op S a b with
   | some d=>match eE S (.loc l) i d with
    | some S'=>.next env S'
    | none=>.stuck
   | none=>.stuck
  | none=>.stuck
 | _=>.stuck:=rfl
@[simp ↓] theorem wO (op:Sto→D→D→Option D) (mo mi mv:ME) (env:En) (S:Sto):RS.wp (oN op mo mi mv env S) N R E B B2=RS.wp ((mo env S).rs env fun o S=>match o with
 | .loc l=>(mi env S).rs env fun i S=>match fIx S (.loc l) i with
  | some a=>(mv env S).rs env fun b S=>match op S a b with
   | some d=>match eE S (.loc l) i d with
    | some S'=>.next env S'
    | none=>.stuck
   | none=>.stuck
  | none=>.stuck
 | _=>.stuck) N R E B B2:=rfl
@[simp] theorem vk (m:ME) (env:En) (S:Sto):l9 m env S=(m env S).bind fun d S=>match d with
 | .loc l=>match S[l]? with
  | some (.dct false kvs)=>.ok (.lst (kvs.map (·.2))) S
  | _=>.stuck
 | _=>.stuck:=rfl
@[simp ↓] theorem vm (m:ME) (env:En) (S:Sto):Res.wp (l9 m env S) Q E=Res.wp ((m env S).bind fun d S=>match d with
 | .loc l=>match S[l]? with
  | some (.dct false kvs)=>.ok (.lst (kvs.map (·.2))) S
  | _=>.stuck
 | _=>.stuck) Q E:=rfl
@[simp] theorem eLenSet_at (m:ME) (env:En) (S:Sto):rF m env S=(m env S).bind fun d S=>match view S d with
 | .lst ds=>match iS ds with
  | some xs=>if xs.length≤100 then .ok (.int (cntU xs xs.length:Nat)) S else .stuck
  | none=>.stuck
 | _=>.stuck:=rfl
@[simp ↓] theorem wq_eLenSet (m:ME) (env:En) (S:Sto):Res.wp (rF m env S) Q E=Res.wp ((m env S).bind fun d S=>match view S d with
 | .lst ds=>match iS ds with
  | some xs=>if xs.length≤100 then .ok (.int (cntU xs xs.length:Nat)) S else .stuck
  | none=>.stuck
 | _=>.stuck) Q E:=rfl
@[simp] theorem iItmD_at (m:ME) (env:En) (S:Sto):iItmD m env S=(m env S).bind fun d S=>match d with
 | .loc l=>match S[l]? with
  | some (.dct true kvs)=>.ok (.items (kvs.map mB)) (S.set l (.fdc true kvs))
  | some (.fdc false kvs)=>.ok (.items (kvs.map mB)) S
  | _=>.stuck
 | _=>.stuck:=rfl
@[simp ↓] theorem wq_iItmD (m:ME) (env:En) (S:Sto) {Q:ItD→Sto→Prop}:Res.wp (iItmD m env S) Q E=Res.wp ((m env S).bind fun d S=>match d with
 | .loc l=>match S[l]? with
  | some (.dct true kvs)=>.ok (.items (kvs.map mB)) (S.set l (.fdc true kvs))
  | some (.fdc false kvs)=>.ok (.items (kvs.map mB)) S
  | _=>.stuck
 | _=>.stuck) Q E:=rfl
@[simp] theorem eMakeD_at (cn:Str) (n:Nat) (z:D) (mi:MF) (r:MA) (env:En) (S:Sto):uO cn n z mi r env S=(r env S).bind fun ds S=>(chk n mi (.loc S.length::(ds++[z])) (S++[.ins cn []])).bind fun d S'=>match d with
 | .none=>.ok (.loc S.length) S'
 | _=>.stuck:=rfl
@[simp ↓] theorem wq_eMakeD (cn:Str) (n:Nat) (z:D) (mi:MF) (r:MA) (env:En) (S:Sto):Res.wp (uO cn n z mi r env S) Q E=Res.wp ((r env S).bind fun ds S=>(chk n mi (.loc S.length::(ds++[z])) (S++[.ins cn []])).bind fun d S'=>match d with
 | .none=>.ok (.loc S.length) S'
 | _=>.stuck) Q E:=rfl
end
end DL
namespace DL
open PySem PySem.Spec PyProof.Rows L2 LamX
/-- a list,told by itself or as it stands in the store -/
def LV (S:Sto) (v:D) (xs:List D):Prop:=v=.lst xs∨∃l,v=.loc l∧S[l]?=some (.lst xs)
section
variable {S:Sto} {v:D} {xs:List D}
theorem LV.lst:LV S (.lst xs) xs:=.inl rfl
theorem LV.loc {l:Nat} (h:S[l]?=some (.lst xs)):LV S (.loc l) xs:=.inr ⟨l,rfl,h⟩
theorem LV.view0 (h:LV S v xs):view0 S v=.lst xs:=by
 rcases h with rfl|⟨l,rfl,e⟩
 ·rfl
 ·simp[e]
theorem LV.view (h:LV S v xs):view S v=.lst xs:=by
 unfold DL.view
 rw[h.view0]; rfl
theorem LV.len (h:LV S v xs):b3 S [v]=some (.int xs.length):=by
 rcases h with rfl|⟨l,rfl,e⟩
 ·rfl
 ·exact uK e
theorem LV.ty (h:LV S v xs):gG S v=some "list":=by
 rcases h with rfl|⟨l,rfl,e⟩
 ·rfl
 ·simp[gG,e]
end
end DL
namespace DL
open PySem PySem.Spec PyProof.Rows L2
section
variable {X:Cx} {W:WX} {e o:Expr} {es:List Expr} {pos apos:Pos} {k:Nat}
/-- an attribute as a target -/
def gFld (cn g:Str) (mo:ME):MG:=fun v env S=>match mo env S with
 | .ok (.loc l) S1=>match S1[l]? with
  | some (.ins C fs)=>if C=cn∧fs.length<1000 then some (env,S1.set l (.ins C (iD g v fs))) else none
  | _=>none
 | _=>none
end
def eKdIn (neg:Bool) (tbl:List (Str × Int)) (m:ME):ME:=fun env S=>(m env S).bind fun d S=>match d with
 | .str x=>.ok (.bool (if neg then !(tbl.map (·.1)).contains x else (tbl.map (·.1)).contains x)) S
 | _=>.stuck
def eKdIx (tbl:List (Str × Int)) (m:ME):ME:=fun env S=>(m env S).bind fun d S=>match d with
 | .str x=>ofO S ((tbl.lookup x).map .int)
 | _=>.stuck
def hM:Nat:=2 ^ 64
def hP1:Nat:=11400714785074694791
def hP2:Nat:=14029467366897019727
def hP5:Nat:=2870177450012600261
def hQ2:Nat:=839798700976720815
def hC:Nat:=2870177450013471924
def hRot (x:Nat):Nat:=x*2 ^ 31 % hM+x / 2 ^ 33
def hF (a:Nat):Nat:=hRot ((hP5+a*hP2) % hM)*hP1 % hM
def hG (a:Nat):Nat:=hF a*hQ2 % hM
def hU (a b:Nat):Nat:=(hF a+b*hP2) % hM
def hZ (a b:Nat):Nat:=(hRot (hU a b)*hP1 % hM+hC) % hM
def qG (r:Int × Int):Bool:=decide (0≤r.1)&&decide (r.1<61)&&decide (0≤r.2)&&decide (r.2<10000)
/-- dict(d),a copy of a dict of rides -/
def rG (r:MA):ME:=fun env S=>(r env S).bind fun ds S=>match ds with
 | [.loc l]=>match dE S[l]? with
  | some (true,kvs)=>if (kvs.all fun p=>match p.1 with
   | .tup [.int x,.int y]=>qG (x,y)
   | _=>false)=true then .ok (.loc S.length) (S++[.dct true kvs]) else .stuck
  | _=>.stuck
 | _=>.stuck
@[simp] theorem eDictCT_at (r:MA) (env:En) (S:Sto):rG r env S=(r env S).bind fun ds S=>match ds with
 | [.loc l]=>match dE S[l]? with
  | some (true,kvs)=>if (kvs.all fun p=>match p.1 with
   | .tup [.int x,.int y]=>qG (x,y)
   | _=>false)=true then .ok (.loc S.length) (S++[.dct true kvs]) else .stuck
  | _=>.stuck
 | _=>.stuck:=rfl
def uP (r:MA):ME:=fun env S=>(r env S).bind fun ds S=>match ds.map (view S) with
 | [.lst ys]=>.ok (.loc S.length) (S++[.lst ys])
 | _=>.stuck
def eCutM (m:ME) (ml mh:MP):ME:=fun env S=>(m env S).bind fun d S=>(ml env S).bind fun lo S=>(mh env S).bind fun hi S=>match view0 S d with
 | .lst xs=>.ok (.loc S.length) (S++[.lst (cM xs lo hi)])
 | _=>.stuck
@[simp] theorem eListM_at (r:MA) (env:En) (S:Sto):uP r env S=(r env S).bind fun ds S=>match ds.map (view S) with
 | [.lst ys]=>.ok (.loc S.length) (S++[.lst ys])
 | _=>.stuck:=rfl
@[simp] theorem eCutM_at (m:ME) (ml mh:MP) (env:En) (S:Sto):eCutM m ml mh env S=(m env S).bind fun d S=>(ml env S).bind fun lo S=>(mh env S).bind fun hi S=>match view0 S d with
 | .lst xs=>.ok (.loc S.length) (S++[.lst (cM xs lo hi)])
 | _=>.stuck:=rfl
@[simp] theorem eKdIn_at (neg:Bool) (tbl:List (Str × Int)) (m:ME) (env:En) (S:Sto):eKdIn neg tbl m env S=(m env S).bind fun d S=>match d with
 | .str x=>.ok (.bool (if neg then !(tbl.map (·.1)).contains x else (tbl.map (·.1)).contains x)) S
 | _=>.stuck:=rfl
@[simp] theorem eKdIx_at (tbl:List (Str × Int)) (m:ME) (env:En) (S:Sto):eKdIx tbl m env S=(m env S).bind fun d S=>match d with
 | .str x=>ofO S ((tbl.lookup x).map .int)
 | _=>.stuck:=rfl
end DL
namespace DL
open PySem PySem.Spec PyProof.Rows L2 LamX
section
variable {Q:D→Sto→Prop} {E:XV→Sto→Prop} {N B C:En→Sto→Prop} {R:D→Sto→Prop}
@[simp ↓] theorem wq_eCompX (mi:MI) (g:MG) (m:ME) (vs:List Nat) (env:En) (S:Sto):Res.wp (eCompX mi g m vs env S) Q E=Res.wp ((qA mi g m vs env S).bind fun ds S=>.ok (.lst ds) S) Q E:=rfl
@[simp] theorem compRX_at (mi:MI) (g:MG) (m:ME) (vs:List Nat) (env:En) (S:Sto):qA mi g m vs env S=(mi env S).bind fun it S=>match it with
 | .items ds=>jS g m (aa env vs) ds [] S
 | .live l=>p9 g m (aa env vs) l (ie S l+1) 0 [] S
 | .liveE _=>.stuck:=rfl
@[simp] theorem compIX_nil (g:MG) (m:ME) (w:En) (acc:List D) (S:Sto):jS g m w [] acc S=.ok acc S:=rfl
@[simp] theorem wP (g:MG) (m:ME) (w:En) (d:D) (ds acc:List D) (S:Sto):jS g m w (d::ds) acc S=(rA g m w d acc S).bind fun acc S=>jS g m w ds acc S:=rfl
@[simp] theorem turnX_at (g:MG) (m:ME) (w:En) (d:D) (acc:List D) (S:Sto):rA g m w d acc S=match g d w S with
 | none=>.stuck
 | some p=>(m p.1 p.2).bind fun v S3=>if acc.length<1000000 then .ok (acc++[v]) S3 else .stuck:=rfl
@[simp] theorem gFld_at (cn g:Str) (mo:ME) (v:D) (env:En) (S:Sto):gFld cn g mo v env S=match mo env S with
 | .ok (.loc l) S1=>match S1[l]? with
  | some (.ins C fs)=>if C=cn∧fs.length<1000 then some (env,S1.set l (.ins C (iD g v fs))) else none
  | _=>none
 | _=>none:=rfl
def isRd:D→Bool
 | .tup [.int x,.int y]=>qG (x,y)
 | _=>false
@[simp ↓] theorem wq_eDictCT (r:MA) (env:En) (S:Sto):Res.wp (rG r env S) Q E=Res.wp ((r env S).bind fun ds S=>match ds with
 | [.loc l]=>match dE S[l]? with
  | some (true,kvs)=>if (kvs.all fun p=>isRd p.1)=true then .ok (.loc S.length) (S++[.dct true kvs]) else .stuck
  | _=>.stuck
 | _=>.stuck) Q E:=rfl
@[simp ↓] theorem wq_eListM (r:MA) (env:En) (S:Sto):Res.wp (uP r env S) Q E=Res.wp ((r env S).bind fun ds S=>match ds.map (view S) with
 | [.lst ys]=>.ok (.loc S.length) (S++[.lst ys])
 | _=>.stuck) Q E:=rfl
@[simp ↓] theorem wq_eCutM (m:ME) (ml mh:MP) (env:En) (S:Sto):Res.wp (eCutM m ml mh env S) Q E=Res.wp ((m env S).bind fun d S=>(ml env S).bind fun lo S=>(mh env S).bind fun hi S=>match view0 S d with
 | .lst xs=>.ok (.loc S.length) (S++[.lst (cM xs lo hi)])
 | _=>.stuck) Q E:=rfl
end
end DL
namespace DL
open PySem PySem.Spec PyProof.Rows L2
/-- what a list holds is named -/
def gTupL (n:Nat) (gs:MGs):MG:=fun d env S=>match view0 S d with
 | .lst ds=>if ds.length=n then gs ds env S else none
 | _=>none
@[simp] theorem gTupL_at (n:Nat) (gs:MGs) (d:D) (env:En) (S:Sto):gTupL n gs d env S=match view0 S d with
 | .lst ds=>if ds.length=n then gs ds env S else none
 | _=>none:=rfl
@[simp ↓] theorem wq_eCatM {Q:D→Sto→Prop} {E:XV→Sto→Prop} (ma mb:ME) (env:En) (S:Sto):Res.wp (eCatM ma mb env S) Q E=Res.wp ((ma env S).bind fun a S=>(mb env S).bind fun b S=>match view0 S a,view0 S b with
 | .lst xs,.lst ys=>if xs.length+ys.length≤1000000 then .ok (.loc S.length) (S++[.lst (xs++ys)]) else .stuck
 | _,_=>.stuck) Q E:=rfl
end DL
namespace DL
open PySem PySem.Spec PyProof.Rows L2 LamX
theorem LamHere.blk {X:Cx} {p:Str × Option Str} (lh:LamHere X p) {s:Shared} {H:Hp} {sc:Scope} {cl:List (Str × Addr)} {C:Addr} {fp:List Addr}:LamHere (X.blk s H sc (compEnvC sc cl C X.env) fp) p:=⟨lh.tb,lh.code,lh.mem,lh.uniq⟩
end DL
namespace DL
open PySem PySem.Spec PyProof.Rows L2
open PySem.SeqAt PySem.MeetsSeq PySem.MeetsSeq2 PySem.MeetsSeq3 PySem.SeqRoads2 PySem.AutoSeq1
end DL
namespace DL
open PySem PySem.Spec PyProof.Rows L2
end DL
namespace DL
open PySem PySem.Spec PyProof.Rows L2 LamX
section
variable {X:Cx} {W:WX}
/-- the slot of a lambda's own name,as its default has it -/
def eZ (i:Nat) (m:ME):ME:=fun env S=>m (env.set i (some (.int 0))) S
@[simp] theorem eZ_at (i:Nat) (m:ME) (env:En) (S:Sto):eZ i m env S=m (env.set i (some (.int 0))) S:=rfl
end
end DL
namespace DL
open PySem PySem.Spec PyProof.Rows L2
def zipSD:List D→Option (List D)
 | [.tup xs,.str y]=>some (eA xs (gA y))
 | [.lst xs,.str y]=>some (eA xs (gA y))
 | _=>none
def iZipS (r:MA):MI:=fun env S=>(r env S).bind fun ds S=>ofO S ((zipSD (ds.map vt)).map .items)
end DL
namespace DL
open PySem PySem.Spec PyProof.Rows
open PySem.Sem (wp)
end DL
namespace DL
open PySem PySem.Spec PyProof.Rows
open PySem.Sem (wp)
end DL
namespace DL
open PySem PySem.Spec PyProof.Rows L2
def oO:List D→Option D
 | [.tup xs,.str y]=>some (.lst (eA xs (gA y)))
 | _=>none
def uQ (r:MA):ME:=fun env S=>(r env S).bind fun ds S=>ofO S (oO (ds.map vt))
@[simp] theorem wQ (r:MA) (env:En) (S:Sto):uQ r env S=(r env S).bind fun ds S=>ofO S (oO (ds.map vt)):=rfl
@[simp] theorem iZipS_at (r:MA) (env:En) (S:Sto):iZipS r env S=(r env S).bind fun ds S=>ofO S ((zipSD (ds.map vt)).map .items):=rfl
section
variable {X:Cx}
/-- what stands in a text's gap -/
def fmD:D→Option D
 | .str y=>if y.length≤16777216 then some (.str y) else none
 | .int i=>if i.natAbs<1000000000 then some (.str (toString i)) else none
 | _=>none
def eFm (m:ME):ME:=fun env S=>(m env S).bind fun d S=>ofO S (fmD d)
def jsM:List ME→Str→En→Sto→Res Str
 | [],acc=>fun _ S=>.ok acc S
 | m::ms,acc=>fun env S=>(m env S).bind fun d S=>match d with
  | .str y=>if (acc++y).length≤16777216 then jsM ms (acc++y) env S else .stuck
  | _=>.stuck
def eJs (ms:List ME):ME:=fun env S=>(jsM ms Str.empty env S).bind fun y S=>.ok (.str y) S
end
@[simp] theorem eFm_at (m:ME) (env:En) (S:Sto):eFm m env S=(m env S).bind fun d S=>ofO S (fmD d):=rfl
@[simp] theorem eJs_at (ms:List ME) (env:En) (S:Sto):eJs ms env S=(jsM ms Str.empty env S).bind fun y S=>.ok (.str y) S:=rfl
@[simp] theorem jsM_nil (acc:Str) (env:En) (S:Sto):jsM [] acc env S=.ok acc S:=rfl
@[simp] theorem jsM_cons (m:ME) (ms:List ME) (acc:Str) (env:En) (S:Sto):jsM (m::ms) acc env S=(m env S).bind fun d S=>match d with
  | .str y=>if (acc++y).length≤16777216 then jsM ms (acc++y) env S else .stuck
  | _=>.stuck:=rfl
def uR (tbl:List (Str × Str)) (x:Str) (d:D):D:=match tbl.lookup x with
 | some y=>.str y
 | none=>d
def eKdGet (tbl:List (Str × Str)) (m md:ME):ME:=fun env S=>(m env S).bind fun d S=>(md env S).bind fun d2 S=>match d with
 | .str x=>.ok (uR tbl x d2) S
 | _=>.stuck
@[simp] theorem eKdGet_at (tbl:List (Str × Str)) (m md:ME) (env:En) (S:Sto):eKdGet tbl m md env S=(m env S).bind fun d S=>(md env S).bind fun d2 S=>match d with
 | .str x=>.ok (uR tbl x d2) S
 | _=>.stuck:=rfl
def fIntS (_:Sto) (ds:List D):Option D:=match ds with
 | [.str a]=>if a.length≤640 then (PySem.intText? a).map .int else none
 | _=>none
@[simp] theorem fIntS_str (S:Sto) (a:Str):fIntS S [.str a]=if a.length≤640 then (PySem.intText? a).map .int else none:=rfl
section
variable {X:Cx} {a b:Expr} {sp pos:Pos} {k:Nat}
/-- a,*b=t -/
def vn (gs:MGs):MG:=fun d env S=>match vt d with
 | .lst (x::xs)=>gs [x,.lst xs] env S
 | _=>none
end
@[simp] theorem wR (gs:MGs) (x:D) (xs:List D) (env:En) (S:Sto):vn gs (.lst (x::xs)) env S=gs [x,.lst xs] env S:=rfl
end DL
namespace DL
open PySem PySem.Spec PyProof.Rows L2 LamX
def qH:MS:=fun _ _=>.stuck
theorem g8 {X:Cx} {W:WX} {rest:List Stmt}:PSs X rest (tS X W qH):=⟨fun _ _ _ _ _ _ ⟨_,_,_,_,o⟩=>o.elim⟩
section
variable {X:Cx}
theorem oP {W:WX} {i:Nat} {yy:Str} {py spos:Pos} {k j:Nat} {x y:Str} {g:Addr} {hd:Hdr} {fg:List Nat} {tab:fu} {mi:MI} {iter:Expr} {scope:Scope} {own:List (Str × Nat)} {pos cpos ppos p2 tp:Pos} {gm:MG}
  (hc:X.calm=true) (hNd:X.N.Nodup) (hyy:X.N[i]?=some yy) (hyl:X.env.scope.names.lookup yy=some .local) (hsw:swapsWith (.ListComp (.Call (.Name x ppos) [.Name y p2] [] cpos) [⟨.Name y tp,iter,[],0⟩] scope pos) (some (.Name yy py)) spos.line X.env=pure true) (kf:KindF X.prog X.w X.K X.mg X.base k x g hd) (hm:X.mg x=some (.ref g)) (hr:Room (k+2) X.A) (hN:X.N[j]?=some y) (hy:(relS scope X.env.scope).names.lookup y=some .local) (hgl:(relS scope X.env.scope).names.lookup x=some .globalImplicit)
  (ht:∀e∈tab,kq X k e) (hi:PI X (.Name y tp) iter (tI X W mi)) (ok:BlkOk X.N X.env.scope scope own) (hfg:∀v∈own.map (·.2),v∈fg)
  (hg:∀(s:Shared) (H:Hp) (C:Addr) (cl:List (Str × Addr)) (fp:List Addr),PG (X.blk s H scope (compEnvC scope cl C X.env) fp) (.Name y tp) (tGc (X.blk s H scope (compEnvC scope cl C X.env) fp) (own.map (·.2)) gm))
  (hs:∀x,foldedSetIterable iter X.env x=pure x:=by intro _; rfl) (hdb:(x == ("__debug__":Str))=false:=by decide) (hyd:(y == ("__debug__":Str))=false:=by decide) (hyc:(y == ("__classdict__":Str))=false:=by decide) :
  PS X (.Assign [.Name yy py] (.ListComp (.Call (.Name x ppos) [.Name y p2] [] cpos) [⟨.Name y tp,iter,[],0⟩] scope pos) spos) (tS X W (ap i (cE mi gm b5 (eI hd j fg tab) (own.map (·.2))))):=by
 obtain ⟨pg,bg,sg,dV,kV,doc,pmg,cdv,ct,oc,an,od,osl,Ng,a,lk,hcg,hb,Sg,hNg,hva,hda,hca,hG⟩:=kf.ex
 refine ⟨fun pins s σ H D I h=>?_⟩
 rw[exec_Assign_Name_used _ _ _ _ hsw]
 refine wpAny_bind (wpAny_standAt (wpAny_bind ?_))
 show wpAny _ X.A (do let _ ←comprehension (.ListComp (.Call (.Name x ppos) [.Name y p2] [] cpos) [⟨.Name y tp,iter,[],0⟩] scope pos) scope X.env (firstIterPos [⟨.Name y tp,iter,[],0⟩] pos) (newList []) false (eval iter X.env) (some (assign (.Name yy py) X.env))) _ _ s
 obtain ⟨env0,S0,μ0,rl0,o0⟩:=h
 have h2:=pU (X:=X) (own:=own) (Q:=fun x H1=>gName i x σ H1 D.nx) (jM ⟨env0,S0,μ0,rl0,(OutS.rs rl0.env o0).mono fun x H1 ⟨μ1,S1,d,st,rs,r,o1⟩=>o1 μ1 H1 _ .refl ((rl0.env.step st).set r) rs⟩)
 refine wpAny_bind (thn (vU (Qf:=fun _ s'=>SP X pins D .next s') (g:=tGc X (own.map Prod.snd) gm) (te:=tE X W0 (eI hd j fg tab)) hc hNd I hi ok hg (tt:=tT X W0 b5) (fun s0 H0 C cl fp=>show PTs (X.blk s0 H0 scope (compEnvC scope cl C X.env) fp) [] (tT X W0 b5) from cG (X:=X.blk s0 H0 scope (compEnvC scope cl C X.env) fp)) (fun s0 H0 C cl fp pY sY σY HY QY IY back hw hte=>?_) hs h2 fun L C s' m H' I' q hn f=>?_) fun _ s' hq=>wpAny_pure (wpAny_pure hq))
 ·obtain ⟨env,S,μ,rl,o⟩:=hte
  unfold eI at o
  split at o
  ·rename_i kk b q F he
   split at o
   ·rename_i b' q' F' m het
    split at o
    ·rename_i hcc
     obtain ⟨rfl,rfl,rfl⟩:=hcc
     obtain ⟨hq,hfun,hrun⟩:=ht _ (List.mem_of_getElem? het)
     simp only at hq hrun hfun
     subst hq
     obtain ⟨v,hσ,rv⟩:=rl.env.at_ j _ he
     unfold Rep at rv
     obtain ⟨f,c',pm,ctv,dv,rfl,⟨hf,nf⟩,⟨hco,nc⟩,hdf⟩:=rv
     refine wpAny_Call_Name_kw (ld_glob IY hgl hm ?_ hdb)
     refine PySem.W.callWith_K (h₀:=X.base) IY.ok.mod.kin kf.kp ?_ (by rfl) (by rfl)
     show wpAny _ _ (spliced ((false,eval (.Name y p2) (compEnvC scope cl C X.env))::backTo cpos (starEach [] (compEnvC scope cl C X.env)))) _ _ sY
     refine Calls.spliced_cons ?_
     refine thnF ((pe_var (X:=X.blk s0 H0 scope (compEnvC scope cl C X.env) fp) (pos:=p2) (i:=j) hN (.inl hy) hyd hyc).run pY sY σY HY (fun v H1=>v=.ref f∧H1=HY) IY ⟨.ref f,hσ,rfl,rfl⟩) fun u s1 ⟨v,H1,I1,r1,q1⟩=>?_
     obtain ⟨ev,eH⟩:=q1
     subst ev eH
     obtain rfl:u=Value.ref f:=r1
     refine Calls.spliced_nil ⟨I1.kIn,?_⟩
     have IX:=back _ _ _ _ I1
     have hteX:tE X W0 (oA hd m) σ H1 QY:=⟨aa env fg,S,μ,⟨rp rl.env hw hfg,rl.sto⟩,o⟩
     have rc:codeAny (model X.prog X.w) X.A (.call (.ref g) ⟨[.ref f],[]⟩) (CR C8.CX0 X.stack X.prog X.w H1 s1 QY C8.E0) s1:=by
      refine run_ofS (N:=Ng) (ps:=[a]) (us:=[.ref f]) (vs:=[.ref f]) lk hcg Sg hr IX.env0 (hb s1 [.ref f] IX.kIn rfl) (.cons rfl .nil) rfl fun hr'=>?_
      have hgv:=hG X rfl rfl rfl rfl rfl hr (X.env.qual++"<lambda>") f c' s1 H1 QY
       (fun E HZ Q'=>HZ f=some (mL f (F pm c' ctv dv))∧DfO b HZ μ dv∧tE X (fun c d _ H=>E c d H) m σ HZ Q')
      refine Exists.elim (hgv (fun W pn xe E p1 p2 tk hW=>?_) hco ?_) fun t' h3=>⟨t',h3.1.nox,h3.2⟩
      ·refine ⟨fun pinsZ sZ σZ HZ QZ IZ hZ=>?_⟩
       obtain ⟨hs,hcZ,hfZ,hdZ,htZ⟩:=hZ
       refine wpAny_Call_Name_kw (thn ((pe_var (pos:=p1) (i:=0) hNg hva hda hca).run pinsZ sZ σZ HZ (fun v H1=>v=.ref f∧H1=HZ) IZ ⟨.ref f,hs,rfl,rfl⟩) fun u s2 ⟨v,H2,I2,r2,q2⟩=>?_)
       obtain ⟨ev,eH⟩:=q2
       subst ev eH
       obtain rfl:u=Value.ref f:=r2
       have of1:s2.heap.get? f=some (F pm c' ctv dv):=(I2.hok f _ hfZ).1
       obtain ⟨fd,efd⟩:=hfun pm c' ctv dv
       rw[efd] at of1
       refine PySem.W.callWith_F0 ⟨_,_,_,_,of1⟩ ?_
       have un:Un (frs X.stack) [] H1 H2 s1.heap s2.heap:=I2.base
       have rc:=hrun IX I2.env0 un hfZ hcZ hdZ hr' htZ
       have hx:=passes_call tk hW
       refine wpAny_call (codeAny_mono rc fun r s' hq=>?_)
       cases r with
       | error e=>exact hx pinsZ σZ H2 s2 e s' I2 hq
       | ok fl=>
        cases fl with
        | ret u=>exact I2.after hq
        | next=>exact False.elim hq
        | brk=>exact False.elim hq
        | cont=>exact False.elim hq
      ·exact ⟨hf,hdf,(t_kind hteX).2 H1 (ExtN.refl H1) rl.sto.tab⟩
     refine wpAny_call (codeAny_mono rc fun r s2 hq=>?_)
     cases r with
     | error e=>exact (show False from hq).elim
     | ok fl=>
      cases fl with
      | ret u=>exact I1.after hq
      | next=>exact False.elim hq
      | brk=>exact False.elim hq
      | cont=>exact False.elim hq
    ·exact o.elim
   ·exact o.elim
  ·exact o.elim
 ·show wpAny _ _ (assign (.Name yy py) X.env (.ref L)) _ _ _
  refine wpAny_assign_Name (store_ok2 (v:=V.ref L) I' hNd hyy (.inl hyl) rfl (fun s2 I2 ⟨a,sb,ha⟩=>?_) (.inr hyl))
  obtain ⟨f0,f1,f2,f3,f4,f5⟩:=f
  have haC:C≠a:=by
   rcases ha with z|z
   ·rw[z]; exact f1
   ·exact fun e=>f4 yy a z e.symm
  refine ⟨m,hn.sameBut sb haC,fun h3 sb3=>?_⟩
  exact ⟨_,H',I2.turned (t':=s2.toks) (fun b o hb e=>(sb3.2 b hb).trans e) f0 f1 f3 f4 f5,q⟩
end
def mx (x:Int):List Int→List Int
 | []=>[x]
 | y::ys=>if x<y then x::y::ys else if x=y then y::ys else y::mx x ys
def cj (ns:List Int):List Int:=ns.foldr mx []
theorem lA {x k:Int}:∀ys:List Int,k∈mx x ys↔k=x∨k∈ys
 | []=>by simp[mx]
 | y::ys=>by
  unfold mx
  by_cases h1:x<y
  ·rw[if_pos h1,List.mem_cons]
  ·rw[if_neg h1]
   by_cases h2:x=y
   ·rw[if_pos h2,List.mem_cons,h2]
    exact ⟨fun h=>.inr h,fun h=>h.elim (fun z=>.inl z) id⟩
   ·rw[if_neg h2,List.mem_cons,lA ys,List.mem_cons]
    exact ⟨fun h=>h.elim (fun z=>.inr (.inl z)) fun z=>z.elim .inl fun z=>.inr (.inr z),fun h=>h.elim (fun z=>.inr (.inl z)) fun z=>z.elim .inl fun z=>.inr (.inr z)⟩
theorem oQ {x:Int}:∀ys:List Int,ys.Pairwise (·<·)→(mx x ys).Pairwise (·<·)
 | [],_=>by simp[mx]
 | y::ys,h=>by
  obtain ⟨h1,h2⟩:=List.pairwise_cons.mp h
  unfold mx
  by_cases h3:x<y
  ·rw[if_pos h3]
   exact List.pairwise_cons.mpr ⟨fun z hz=>(List.mem_cons.mp hz).elim (fun e=>e▸h3) fun hz=>Int.lt_trans h3 (h1 z hz),h⟩
  ·rw[if_neg h3]
   by_cases h4:x=y
   ·rw[if_pos h4]; exact h
   ·rw[if_neg h4]
    exact List.pairwise_cons.mpr ⟨fun z hz=>((lA ys).mp hz).elim (fun e=>by omega) (h1 z),oQ ys h2⟩
theorem g9 {k:Int}:∀ns:List Int,k∈cj ns↔k∈ns
 | []=>Iff.rfl
 | n::ns=>by
  show k∈mx n (cj ns)↔_
  rw[lA,g9 ns,List.mem_cons]
theorem ff:∀ns:List Int,(cj ns).Pairwise (·<·)
 | []=>List.Pairwise.nil
 | n::ns=>oQ _ (ff ns)
theorem lB:∀ {a b:List Int},a.Pairwise (·<·)→b.Pairwise (·<·)→(∀k,k∈a↔k∈b)→a=b
 | [],[],_,_,_=>rfl
 | [],y::ys,_,_,h=>absurd ((h y).mpr List.mem_cons_self) List.not_mem_nil
 | x::xs,[],_,_,h=>absurd ((h x).mp List.mem_cons_self) List.not_mem_nil
 | x::xs,y::ys,ha,hb,h=>by
  obtain ⟨a1,a2⟩:=List.pairwise_cons.mp ha
  obtain ⟨b1,b2⟩:=List.pairwise_cons.mp hb
  have e:x=y:=by
   have p:=(h x).mp List.mem_cons_self
   have q:=(h y).mpr List.mem_cons_self
   rcases List.mem_cons.mp p with p|p
   ·exact p
   ·rcases List.mem_cons.mp q with q|q
    ·exact q.symm
    ·have:=a1 _ q
     have:=b1 _ p
     omega
  subst e
  congr 1
  refine lB a2 b2 fun k=>⟨fun hk=>?_,fun hk=>?_⟩
  ·rcases List.mem_cons.mp ((h k).mp (List.mem_cons_of_mem _ hk)) with e|e
   ·have:=a1 _ hk; omega
   ·exact e
  ·rcases List.mem_cons.mp ((h k).mpr (List.mem_cons_of_mem _ hk)) with e|e
   ·have:=b1 _ hk; omega
   ·exact e
theorem oR {ms ns:List Int} (h1:ms.Pairwise (·<·)) (h2:∀k,k∈ms↔k∈ns):ms=cj ns:=lB h1 (ff ns) fun k=>(h2 k).trans (g9 ns).symm
theorem sD {ns:List Int}:ns=cj ns↔ns.Pairwise (·<·):=⟨fun h=>h▸ff ns,fun h=>oR h fun _=>Iff.rfl⟩
def uS (K:PySem.W.Frag) (ta:TE):TE:=fun σ H Q=>ta σ H fun x H1=>∃(l:Addr) (ns:List Int),x=.ref l∧SqT K H1 l (ns.map V.int)∧(ns.length≤1000∧(cj ns).length≤60)∧∀p,H1 p=none→Q (.ref p) (upd H1 p (.lst ((cj ns).map V.int)))
section
variable {X:Cx} {W:WX} {a:Expr} {ta:TE} {m:ME} {p p2 q pos:Pos}
theorem qI (hc:X.calm=true) (hg:Gl X "sorted") (hm:X.mg "sorted"=none) (hg2:Gl X "set") (hm2:X.mg "set"=none) (ha:PE X a ta) (na:starEach [a] X.env=(false,eval a X.env)::starEach [] X.env:=by rfl) :
  PE X (.Call (.Name "sorted" p) [.Call (.Name "set" p2) [a] [] q] [] pos) (uS X.K ta):=by
 refine ⟨fun pins s σ H Q I h=>?_⟩
 refine Call_ (ld_blt I hg hm rh ?_)
 refine PyProof.Rows.callWith_builtin1 (PyProof.Rows.args_cons ?_ rfl) rfl rfl
 refine Call_ (ld_blt I hg2 hm2 PyProof.Rows.boot_set ?_)
 refine PyProof.Rows.callWith_type1 (PyProof.Rows.args_cons (thn (ha.run pins s σ H _ I h) fun v s1 ⟨x,H1,I1,r1,q1⟩=>PyProof.Rows.args_nil ?_) na) na rfl
 obtain ⟨l,ns,rfl,hq,⟨hn,hn6⟩,q1⟩:=q1
 cases r1
 obtain ⟨its,r,pl⟩:=I1.tuple hq
 refine call_set_tupI ns (I1.ok.hd hc) pl.1 (by simpa using ints_of_vals r) (by unfold scanBound; omega) fun h' tk c R hcn hk=>?_
 refine PyProof.Rows.args_nil ?_
 have I2:Inv X pins σ H1 { s1 with heap:=h',toks:=tk }:=I1.kept hk
 generalize hs2:({ s1 with heap:=h',toks:=tk }:Shared)=s2 at *
 have R:SetR X.w s2.heap s1.heap.objs.size (fun j=>decide (j∈ns)) c:=hs2▸R
 have hcl:c=(cj ns).length:=by
  obtain ⟨o,es,ep,t,_,_,_,_,nd,hm,_,_,hz,_,_⟩:=R
  have nd2:(cj ns).Nodup:=(ff ns).imp fun h e=>by omega
  have pr:=(List.perm_ext_iff_of_nodup nd nd2).mpr fun k=>(hm k).symm.trans (by rw[decide_eq_true_eq]; exact (g9 ns).symm)
  have:=pr.length_eq
  rw[List.length_map,Array.length_toList] at this
  omega
 refine sorted_set R (I2.ok.hd hc) zqO fun s' p out c' ms k g o hp hgt hi hs hmm hl=>?_
 have e:ms=cj ns:=oR hs fun k=>by rw[hmm]; simp
 subst e
 have hlen:((cj ns).map V.int).length≤sizeLine:=by rw[List.length_map,hl,sizeLine_eq]; omega
 have hn:H1 p=none:=I2.hok.fresh hp
 have J:Inv X pins σ (upd H1 p (.lst ((cj ns).map V.int))) { s2 with heap:=s'.heap,gens:=s'.gens,drawn:=s'.drawn,toks:=s'.toks }:=
  I2.call (ch:=[]) (Un.laid k hp hn) (I2.hok.laid k hp ⟨hlen,out.toList,c',vals_of_ints hi,hgt⟩) (by rw[g]; exact I2.bare) (fun _ z=>nomatch z)
 have e:s'={ s2 with heap:=s'.heap,gens:=s'.gens,drawn:=s'.drawn,toks:=s'.toks }:=by
  cases s'
  cases s2
  cases o
  rfl
 rw[e]
 exact ⟨.ref p,_,J,rfl,q1 p hn⟩
def iu (m:ME):ME:=fun env S=>(m env S).bind fun d S=>match view S d with
 | .tup ds=>match ez ds with
  | some ns=>if ns.length≤1000∧(cj ns).length≤60 then .ok (.lst ((cj ns).map .int)) S else .stuck
  | none=>.stuck
 | _=>.stuck
theorem qJ (hc:X.calm=true) (hg:Gl X "sorted") (hm:X.mg "sorted"=none) (hg2:Gl X "set") (hm2:X.mg "set"=none) (ha:PE X a (tE X W m)) (na:starEach [a] X.env=(false,eval a X.env)::starEach [] X.env:=by rfl) :
  PE X (.Call (.Name "sorted" p) [.Call (.Name "set" p2) [a] [] q] [] pos) (tE X W (iu m)):=
 b4 (qI hc hg hm hg2 hm2 ha na) fun σ H Q ⟨env,S,μ,rl,o⟩=>⟨env,S,μ,rl,(Out.bind o).mono fun x H1 ⟨μ1,S1,d,st,rs,rd,o1⟩=>by
  have rw0:=rs.view rd
  split at o1
  ·rename_i ds ev
   rw[ev] at rw0
   obtain ⟨b,vs,rfl,h1,h2,nb⟩:=rw0.tup
   split at o1
   ·rename_i ns ex
    split at o1
    ·rename_i hn
     refine ⟨b,ns,rfl,by rw[←n6 h2 ex]; exact .inl h1,hn,fun p hp=>?_⟩
     exact o1 μ1 _ _ (.of_sm (.upd hp)) (rs.sm (.upd hp)) (bz rs hp (gc _))
    ·exact o1.elim
   ·exact o1.elim
  ·exact o1.elim⟩
end
section
variable {X:Cx} {W:WX} {es:List Expr} {t:TA} {r:MA} {pos:Pos}
def tTupF (t:TA):TE:=fun σ H Q=>t σ H fun xs H1=>xs.length≤sizeLine∧∀p o,H1 p=none→o.dict=none→Q (.ref p) (upd H1 p (.frz o (.tup xs)))
theorem vo {x1} (h:PA X es t):PE X (.Tuple es x1 pos) (tTupF t):=by
 refine ⟨fun pins s σ H Q I hq=>?_⟩
 refine wpAny_Tuple_spliced (thn (h.run pos pins s σ H _ I hq) fun us s1 ⟨xs,H1,I1,r,z,q⟩=>⟨by rw[←r.length]; exact z,?_⟩)
 have hf:H1 s1.heap.objs.size=none:=I1.hok.fresh (Nat.le_refl _)
 refine ⟨.ref s1.heap.objs.size,upd H1 s1.heap.objs.size (.frz _ (.tup xs)),I1.laid (t':=s1.toks) (fun b u e=>Heap.get?_push_of_some _ e) (Nat.le_refl _) ⟨Heap.get?_push_size _ rfl,z,us,r,⟨_,Heap.get?_push_size _ rfl,rfl,_,rfl⟩⟩,rfl,q _ _ hf rfl⟩
def cV (r:MA):ME:=fun env S=>(r env S).bind fun ds S=>if ds.length≤1000000 then .ok (.tpn ds) S else .stuck
theorem bT {x1} (h:PA X es (tAs X W r)):PE X (.Tuple es x1 pos) (tE X W (cV r)):=b4 (vo h) fun σ H Q ⟨env,S,μ,rl,o⟩=>⟨env,S,μ,rl,(Out.bind o).mono fun xs H1 ⟨μ1,S1,ds,st,rs,rd,o1⟩=>by
 split at o1
 ·rename_i hz
  exact ⟨by rw[←rd.length]; exact b6 hz,fun p ob hp hd=>o1 μ1 _ _ (.of_sm (.upd hp)) (rs.sm (.upd hp)) (fN rs hp hd rd)⟩
 ·exact o1.elim⟩
def rCatF (K:PySem.W.Frag):R2:=fun x y H Q=>∃a b xs ys,x=.ref a∧y=.ref b∧SqT K H a xs∧SqT K H b ys∧xs.length+ys.length≤sizeLine∧
 (xs=[]→Q (.ref b) H)∧(xs≠[]→ys=[]→Q (.ref a) H)∧(xs≠[]→ys≠[]→∀p o,H p=none→o.dict=none→Q (.ref p) (upd H p (.frz o (.tup (xs++ys)))))
theorem vp:OpR X (binaryOp .Add) (rCatF X.K):=by
 intro pins s σ H x y v u Q I rx ry h
 obtain ⟨a,b,xs,ys,rfl,rfl,ha,hb,hz,q0,q1,q2⟩:=h
 by_cases hx:xs=[]
 ·subst hx
  cases rx
  cases ry
  obtain ⟨its,r1,p1,_⟩:=I.tuple ha
  obtain ⟨its2,r2,p2,_⟩:=I.tuple hb
  cases r1
  exact cat_tup0 p1 p2 ⟨.ref b,H,I,rfl,q0 rfl⟩
 ·cases rx
  cases ry
  obtain ⟨its,r1,p1,_⟩:=I.tuple ha
  obtain ⟨its2,r2,p2,_⟩:=I.tuple hb
  refine HT.cat_tup p1 p2 (fun z=>hx (r1.nil_iff.mp z)) (fun z=>⟨.ref a,H,I,rfl,q1 hx (r2.nil_iff.mp z)⟩) (fun z=>?_) (by rw[←r1.length,←r2.length]; exact hz)
  refine ⟨.ref s.heap.objs.size,upd H s.heap.objs.size (.frz _ (.tup (xs++ys))),I.laid (t':=s.toks) (fun b ob q=>Heap.get?_push_of_some _ q) (Nat.le_refl _) ⟨Heap.get?_push_size _ rfl,by rw[List.length_append]; exact hz,_,r1.append r2,IsTup.new _ _⟩,rfl,q2 hx (fun w=>z (r2.nil_iff.mpr w)) _ _ (I.hok.fresh (Nat.le_refl _)) rfl⟩
def catF (a b:D) (xs ys:List D):D:=if xs=[] then b else if ys=[] then a else .tpn (xs++ys)
def bU (a b:D):Option D:=match vt a,vt b with
 | .tup xs,.tup ys=>if xs.length+ys.length≤1000000 then some (catF a b xs ys) else none
 | _,_=>bH a b
@[simp] theorem dAddF_int (i j:Int):bU (.int i) (.int j)=some (.int (i+j)):=rfl
@[simp] theorem dAddF_lst (xs ys:List D):bU (.lst xs) (.lst ys)=if xs.length+ys.length≤1000000 then some (.lst (xs++ys)) else none:=rfl
theorem cI:OpR X (binaryOp .Add) (rS X.K X.mg (lv0 bU)):=by
 intro pins s σ H x y v u Q I rx ry ⟨μ,S,a,b,d,rs,ra,rb,e,q⟩
 have e0:=e
 simp only[lv0] at e
 unfold bU at e
 split at e
 ·rename_i xs ys va vb
  split at e
  ·rename_i hz
   cases e
   have ra':=rs.view0 ra
   have rb':=rs.view0 rb
   have wa:=ra'.vt
   have wb:=rb'.vt
   generalize view0 S a=a at *
   generalize view0 S b=b at *
   rw[va] at wa
   rw[vb] at wb
   have ra2:Rep X.K X.mg μ H a x:=by
    cases a with
    | tup z=>exact ra'
    | tpn z=>exact ra'
    | _=>cases va
   have rb2:Rep X.K X.mg μ H b y:=by
    cases b with
    | tup z=>exact rb'
    | tpn z=>exact rb'
    | _=>cases vb
   obtain ⟨p,vs,rfl,ha,la,sa⟩:=wa
   obtain ⟨p',us,rfl,hb,lb,sb⟩:=wb
   have n1:xs=[]↔vs=[]:=by rw[←List.length_eq_zero_iff,←List.length_eq_zero_iff,la.length]
   have n2:ys=[]↔us=[]:=by rw[←List.length_eq_zero_iff,←List.length_eq_zero_iff,lb.length]
   unfold catF at q
   refine vp pins s σ H _ _ v u Q I rx ry ⟨p,p',vs,us,rfl,rfl,.inl ha,.inl hb,by rw[←la.length,←lb.length]; exact b6 hz,fun h=>?_,fun h0 h=>?_,fun h0 h p o hp hd=>?_⟩
   ·rw[if_pos (n1.mpr h)] at q
    exact q H _ .rfl rb2
   ·rw[if_neg (fun z=>h0 (n1.mp z)),if_pos (n2.mpr h)] at q
    exact q H _ .rfl ra2
   ·rw[if_neg (fun z=>h0 (n1.mp z)),if_neg (fun z=>h (n2.mp z))] at q
    exact q _ _ (.upd hp) (fN rs hp hd (la.append lb))
  ·cases e
 ·exact ar pins s σ H x y v u Q I rx ry ⟨μ,S,a,b,d,rs,ra,rb,by simpa only [lv0] using e,q⟩
def rSlF (K:PySem.W.Frag):V→Option Int→Option Int→Hp→VK→Prop:=fun x lo hi H Q=>∃a xs,x=.ref a∧SqT K H a xs∧
 (HT.sIx xs.length 0 lo=0∧HT.sIx xs.length xs.length hi=xs.length→Q (.ref a) H)∧(¬(HT.sIx xs.length 0 lo=0∧HT.sIx xs.length xs.length hi=xs.length)→∀p o,H p=none→o.dict=none→Q (.ref p) (upd H p (.frz o (.tup (cutV xs lo hi)))))
theorem vq:SlR X (rSlF X.K):=by
 intro pins s σ H x v vl vu lo hi sl Q I rx hs pl pu h
 obtain ⟨a,xs,rfl,hx,q1,q2⟩:=h
 cases rx
 obtain ⟨its,r,ht,hz⟩:=I.tuple hx
 have hlen:its.toArray.size=xs.length:=by rw[List.size_toArray]; exact r.length.symm
 refine ⟨"tuple",_,PyProof.Rows.slot_tuple_getitem.lookup,ht.typeIs,?_⟩
 by_cases hw:HT.sIx xs.length 0 lo=0∧HT.sIx xs.length xs.length hi=xs.length
 ·exact getItem_tuple_whole ht hs pl pu (by rw[hlen]; exact hw) ⟨.ref a,H,I,rfl,q1 hw⟩
 ·refine HT.getItem_tuple_cut ht hs pl pu (by rw[hlen]; exact hw) ?_ (by rw[hlen]; exact hz)
  rw[hlen]
  refine ⟨.ref s.heap.objs.size,upd H s.heap.objs.size (.frz _ (.tup (cutV xs lo hi))),I.laid (t':=s.toks) (fun b ob q=>Heap.get?_push_of_some _ q) (Nat.le_refl _) ⟨Heap.get?_push_size _ rfl,Nat.le_trans (cutV_length xs lo hi) hz,_,(r.drop (HT.sIx xs.length 0 lo)).take (HT.sIx xs.length xs.length hi - HT.sIx xs.length 0 lo),IsTup.new _ _⟩,rfl,q2 hw _ _ (I.hok.fresh (Nat.le_refl _)) rfl⟩
def fO (d:D) (lo hi:Option Int):Option D:=match vt d with
 | .tup xs=>some (if HT.sIx xs.length 0 lo=0∧HT.sIx xs.length xs.length hi=xs.length then d else .tpn (cM xs lo hi))
 | _=>jw d lo hi
def gD (m:ME) (ml mh:MP):ME:=fun env S=>(m env S).bind fun d S=>(ml env S).bind fun lo S=>(mh env S).bind fun hi S=>ofO S (fO (view0 S d) lo hi)
theorem vr:SlR X (fun x lo hi H Q=>∃μ S d d',RelS X.K X.mg μ H S∧RepV X.K X.mg μ H d x∧fO d lo hi=some d'∧∀H' v,Sm H H'→Rep X.K X.mg μ H' d' v→Q v H'):=by
 intro pins s σ H x v vl vu lo hi sl Q I rx hs pl pu ⟨μ,S,d,d',rs,r,e,q⟩
 unfold fO at e
 split at e
 ·rename_i xs vd
  cases e
  have r':Rep X.K X.mg μ H d x:=by
   cases d with
   | tup z=>exact r
   | tpn z=>exact r
   | _=>cases vd
  have w:=r.vt
  rw[vd] at w
  obtain ⟨a,vs,ea,ha,l,na⟩:=w
  subst ea
  have el:cutV vs lo hi=(vs.drop (HT.sIx xs.length 0 lo)).take (HT.sIx xs.length xs.length hi - HT.sIx xs.length 0 lo):=by unfold cutV; rw[←l.length]
  refine vq pins s σ H _ v vl vu lo hi sl Q I rx hs pl pu ⟨a,vs,rfl,.inl ha,fun hw=>?_,fun hw p o hp hd=>?_⟩
  ·rw[←l.length] at hw
   rw[if_pos hw] at q
   exact q H _ .rfl r'
  ·rw[←l.length] at hw
   rw[if_neg hw] at q
   refine q _ _ (.upd hp) (fN rs hp hd ?_)
   rw[el]
   unfold cM
   exact (l.drop _).take _
 ·exact sv pins s σ H x v vl vu lo hi sl Q I rx hs pl pu ⟨μ,S,d,d',rs,r,e,q⟩
variable {e:Expr} {p2:Pos} {m:ME} {ml mh:MP} {lo hi:Option Expr}
theorem eR (he:PE X e (tE X W m)) (hl:PO' X W lo ml) (hh:PO' X W hi mh):PE X (.Subscript e (.Slice lo hi none p2) pos) (tE X W (gD m ml mh)):=
 b4 (pe_slice vr he hl hh) fun σ H Q ⟨env,S,μ,rl,o⟩=>by
  refine ⟨env,S,μ,rl,(Out.bind o).mono fun x H1 ⟨μ1,S1,d,st,rs,r,o1⟩=>?_⟩
  refine ⟨env,S1,μ1,⟨rl.env.step st,rs⟩,(Out.bind o1).mono fun lo' H2 ⟨μ2,S2,dl,st2,rs2,rl2,o2⟩=>?_⟩
  subst rl2
  refine ⟨env,S2,μ2,⟨(rl.env.step st).step st2,rs2⟩,(Out.bind o2).mono fun hi' H3 ⟨μ3,S3,dh,st3,rs3,rh3,o3⟩=>?_⟩
  subst rh3
  cases e:fO (view0 S3 d) lo' hi' with
  | none=>rw[e] at o3; exact o3.elim
  | some d'=>
   rw[e] at o3
   exact ⟨μ3,S3,_,d',rs3,rs3.view0 (Rep.step st3 _ _ (Rep.step st2 _ _ r)),e,fun H' v sm rr=>o3 μ3 H' v (.of_sm sm) (rs3.sm sm) rr⟩
end
def kB (d:D):Option (D × D):=match vt d with
 | .tup [k,v]=>if cp false k=true then some (k,v) else none
 | _=>none
def dm:List D→Option (List (D × D))
 | []=>some []
 | d::ds=>match kB d,dm ds with
  | some p,some ps=>some (p::ps)
  | _,_=>none
def my (r:MA):ME:=fun env S=>(r env S).bind fun ds S=>match ds with
 | [.tpn xs]=>match dm xs with
  | some ps=>if xs.length≤1000000 then .ok (.loc S.length) (S++[.dct false (eF [] ps)]) else .stuck
  | none=>.stuck
 | _=>.stuck
section
variable {K:PySem.W.Frag} {mg:Str→Option Value} {μ:Mu} {H:Hp}
theorem lC:∀ {xs:List D} {vs:List V} {ps:List (D × D)},RepAll K mg μ H xs vs→dm xs=some ps→∃(as:List Addr) (kvs:List (Key × V)),vs=as.map V.ref∧Paired (fun p kv=>SqT K H p [kV kv.1,kv.2]) as kvs∧ps.map (·.1)=kvs.map (fun kv=>dR kv.1)∧RepAll K mg μ H (ps.map (·.2)) (kvs.map (·.2))
 | [],vs,ps,r,e=>by
  unfold RepAll at r; subst r; cases e
  exact ⟨[],[],rfl,.nil,rfl,.nil⟩
 | d::ds,vs,ps,r,e=>by
  unfold RepAll at r
  obtain ⟨v,q,rfl,r1,r2⟩:=r
  unfold dm at e
  split at e
  ·rename_i p ps' ep eps
   cases e
   obtain ⟨as,kvs,rfl,h1,h2,h3⟩:=lC r2 eps
   unfold kB at ep
   split at ep
   ·rename_i k w vd
    split at ep
    ·rename_i hk
     cases ep
     obtain ⟨kk,rfl⟩:=nY hk
     have w1:=r1.wv.vt
     rw[vd] at w1
     obtain ⟨a,vs,rfl,g1,g2,gn⟩:=w1
     obtain ⟨u1,u2,rfl,k1,k2⟩:=gr g2
     rw[gq k1] at g1
     exact ⟨a::as,(kk,u2)::kvs,rfl,.cons (.inl g1) h1,by rw[List.map_cons,List.map_cons,h2],.cons k2 h3⟩
    ·cases ep
   ·cases ep
  ·cases e
end
section
variable {X:Cx} {W:WX} {e:Expr} {p pos:Pos} {r:MA}
theorem uT (hcalm:X.calm=true) (hg:Gl X "dict") (hm:X.mg "dict"=none) (hv:bootBuiltins "dict"=some (.type "dict")) (ha:PA X [e] (tAs X W r))
  (he:starEach [e] X.env=(false,eval e X.env)::starEach [] X.env:=by rfl) (hpl:(backTo pos (starEach [] X.env)).any (·.1)=false:=by rfl):PE X (.Call (.Name "dict" p) [e] [] pos) (tE X W (my r)):=
 b4 (pe_callTy (n9 hcalm) hg hm hv ha zqC zqC he hpl) fun σ H Q ⟨env,S,μ,rl,o⟩=>⟨env,S,μ,rl,(Out.bind o).mono fun vs H1 ⟨μ1,S1,ds,st,rs,rd,o1⟩=>by
  split at o1
  ·rename_i xs
   split at o1
   ·rename_i ps ep
    split at o1
    ·obtain ⟨v,rfl,r1⟩:=cP rd
     unfold Rep at r1
     obtain ⟨a,ws,o,rfl,⟨h1,hd⟩,n,h2⟩:=r1
     obtain ⟨as,kvs,rfl,g1,g2,g3⟩:=lC h2 ep
     refine ⟨a,o,as,kvs,rfl,h1,hd,g1,fun p hp=>?_⟩
     obtain ⟨ks,vs,m1,m2,m3⟩:=qs (ds:=[]) (acc:=[]) g2 g3 ⟨[],[],rfl,rfl,.nil⟩
     obtain ⟨x,y,z⟩:=mQ (o:=.dct false (eF [] ps)) (ho:=.dK (mergeK [] kvs)) rs hp ⟨vs,ks,⟨by rw[upd_same,m1],m2⟩,RepAll.step (.new_loc hp) _ _ m3⟩
     exact o1 _ _ _ x y z
    ·exact o1.elim
   ·exact o1.elim
  ·exact o1.elim⟩
end
end DL
namespace L2
open PySem
theorem Room.m {j k:Nat} {A:Around} (r:Room k A) (h:j≤k:=by decide):Room j A:=r.mono h
end L2
namespace DL
open PySem PySem.Spec PyProof.Rows L2 LamX
variable {P:Program} {w:World} {K:PySem.W.Frag} {mg:Str→Option Value} {base:Heap}
noncomputable section
/-- what the head tells of the names -/
abbrev iT:Nat:=7
structure Fx (K:PySem.W.Frag) (mg:Str→Option Value):Prop where
 jaA:NoAttr K (He.ga K "Net") "changes"
 jaB:NoAttr K (He.ga K "Net") "legs"
 jaC:Cls K (He.ga K "Net")
 jaD:mg "AirError"=some (.ref (He.ga K "AirError"))
 jaE:mg "BadChain"=some (.ref (He.ga K "BadChain"))
 jaF:mg "BadClasses"=some (.ref (He.ga K "BadClasses"))
 jaG:mg "BadCount"=some (.ref (He.ga K "BadCount"))
 jaH:mg "BadDay"=some (.ref (He.ga K "BadDay"))
 jaI:mg "BadDeed"=some (.ref (He.ga K "BadDeed"))
 jaJ:mg "BadFleet"=some (.ref (He.ga K "BadFleet"))
 jaK:mg "BadName"=some (.ref (He.ga K "BadName"))
 jaL:mg "BadNet"=some (.ref (He.ga K "BadNet"))
 jaM:mg "BadPlace"=some (.ref (He.ga K "BadPlace"))
 jaN:mg "BadText"=some (.ref (He.ga K "BadText"))
 jaO:mg "BadTime"=some (.ref (He.ga K "BadTime"))
 jaP:mg "CannotFly"=some (.ref (He.ga K "CannotFly"))
 jaQ:mg "Left"=some (.ref (He.ga K "Left"))
 jaR:mg "Net"=some (.ref (He.ga K "Net"))
 jaS:mg "NoBooking"=some (.ref (He.ga K "NoBooking"))
 jaT:mg "NoClass"=some (.ref (He.ga K "NoClass"))
 jaU:mg "NoDuty"=some (.ref (He.ga K "NoDuty"))
 jaV:mg "NoKind"=some (.ref (He.ga K "NoKind"))
 jaW:mg "NoLeg"=some (.ref (He.ga K "NoLeg"))
 jaX:mg "NoPlane"=some (.ref (He.ga K "NoPlane"))
 jaY:mg "NoSeat"=some (.ref (He.ga K "NoSeat"))
 jaZ:mg "NoWay"=some (.ref (He.ga K "NoWay"))
 ja0:mg "Taken"=some (.ref (He.ga K "Taken"))
 ja1:mg "Unmended"=some (.ref (He.ga K "Unmended"))
 ja2:mg "_law_bad"=some (.ref (He.ga K "_law_bad"))
 ja3:mg "_law_drawn"=some (.ref (He.ga K "_law_drawn"))
 ja4:mg "_law_great"=some (.ref (He.ga K "_law_great"))
 ja5:mg "_law_is"=some (.ref (He.ga K "_law_is"))
 ja6:mg "_law_is_leg"=some (.ref (He.ga K "_law_is_leg"))
 ja7:mg "_law_is_place"=some (.ref (He.ga K "_law_is_place"))
 ja8:mg "_law_kind"=some (.ref (He.ga K "_law_kind"))
 ja9:mg "_law_net"=some (.ref (He.ga K "_law_net"))
 jbA:mg "_law_other"=some (.ref (He.ga K "_law_other"))
 jbB:mg "_law_shuttle"=some (.ref (He.ga K "_law_shuttle"))
 jbC:mg "_law_start"=some (.ref (He.ga K "_law_start"))
 jbD:mg "are_days"=some (.ref (He.ga K "are_days"))
 jbE:mg "cut"=some (.ref (He.ga K "cut"))
 jbF:mg "dated"=some (.ref (He.ga K "dated"))
 jbG:mg "fewest"=some (.ref (He.ga K "fewest"))
 jbH:mg "is_leg"=some (.ref (He.ga K "is_leg"))
 jbI:mg "is_number"=some (.ref (He.ga K "is_number"))
 jbJ:mg "is_place"=some (.ref (He.ga K "is_place"))
 jbK:mg "is_word"=some (.ref (He.ga K "is_word"))
 jbL:mg "need_days"=some (.ref (He.ga K "need_days"))
 jbM:mg "need_net"=some (.ref (He.ga K "need_net"))
 jbN:mg "need_place"=some (.ref (He.ga K "need_place"))
 jbO:mg "need_rides"=some (.ref (He.ga K "need_rides"))
 jbP:mg "need_turn"=some (.ref (He.ga K "need_turn"))
 jbQ:mg "shown_planes"=some (.ref (He.ga K "shown_planes"))
 jbR:mg "times"=some (.ref (He.ga K "times"))
 jbS:mg "ways"=some (.ref (He.ga K "ways"))
 jbT:ExcI K (He.ga K "BadNet") (He.ma K (He.ga K "BadNet") "__init__") (He.ga K "AirError") ["part","number"]
 jbU:∃t,mg "DAY"=some (.int 1440 t)
 jbV:∃t,mg "LEAST_CHANGE"=some (.int 10 t)
 jbW:∃t,mg "LEAST_LONG"=some (.int 20 t)
 jbX:∃t,mg "LEAST_TURN"=some (.int 10 t)
 jbY:∃t,mg "MOST_CHANGE"=some (.int 300 t)
 jbZ:∃t,mg "MOST_DAY"=some (.int 60 t)
 jb0:∃t,mg "MOST_FARE"=some (.int 100000 t)
 jb1:∃t,mg "MOST_LEGS"=some (.int 60 t)
 jb2:∃t,mg "MOST_LONG"=some (.int 900 t)
 jb3:∃t,mg "MOST_NUMBER"=some (.int 9999 t)
 jb4:∃t,mg "MOST_PLACES"=some (.int 12 t)
 jb5:∃t,mg "MOST_TURN"=some (.int 300 t)
 jb6:∃t,mg "PLACE_SIZE"=some (.int 3 t)
 jb7:∃t,mg "WEEK"=some (.int 7 t)
 jb8:Mk K (He.ga K "Net") (He.ma K (He.ga K "Net") "__init__")
 jb9:Meth K (He.ga K "Net") "goes" (He.ma K (He.ga K "Net") "goes")
 jcA:Meth K (He.ga K "Net") "need_ride" (He.ma K (He.ga K "Net") "need_ride")
 jcB:mg "ValueError"=none
 jcC:mg "all"=none
 jcD:mg "bool"=none
 jcE:mg "dict"=none
 jcF:mg "enumerate"=none
 jcG:mg "int"=none
 jcH:mg "isinstance"=none
 jcI:mg "len"=none
 jcJ:mg "list"=none
 jcK:mg "range"=none
 jcL:mg "set"=none
 jcM:mg "sorted"=none
 jcN:mg "str"=none
 jcO:mg "tuple"=none
 jcP:mg "zip"=none
 jcQ:∃t,mg "LETTERS"=some (.str "abcdefghijklmnopqrstuvwxyz" t)
 jcR:pb K (He.ga K "BadChain")
 jcS:pb K (He.ga K "BadCount")
 jcT:pb K (He.ga K "BadDay")
 jcU:pb K (He.ga K "BadPlace")
 jcV:pb K (He.ga K "NoLeg")
structure Gx (P:Program) (w:World) (K:PySem.W.Frag) (mg:Str→Option Value) (base:Heap):Prop where
 fx:Fx K mg
 kx:pp K mg kindsHere
 tb:∀p∈lamDefs,TabB base mg (He.cT K p.1).1 (He.cT K p.1).2
 tm:∀p∈lamDefs,((He.cT K p.1).2,p.2)∈tbs K
 tu:∀p∈lamDefs,∀r∈tbs K,r.1=(He.cT K p.1).2→r.2=p.2
 jcW:∃fd,FunD K "is_number" "is_number" (defArgs (top 39)) (defBody (top 39)) (defScope (top 39)) [] [] (He.ga K "is_number") fd
 jcX:∃fd,FunD K "need_days" "need_days" (defArgs (top 46)) (defBody (top 46)) (defScope (top 46)) [] [] (He.ga K "need_days") fd
 jcY:∃fd,FunD K "are_days" "are_days" (defArgs (top 42)) (defBody (top 42)) (defScope (top 42)) [] [] (He.ga K "are_days") fd
 jcZ:∃fd,FunD K "is_leg" "is_leg" (defArgs (top 43)) (defBody (top 43)) (defScope (top 43)) [] [] (He.ga K "is_leg") fd
 jc0:∃fd,FunD K "__init__" "BadNet.__init__" (defArgs (inClass (top 2) 0)) (defBody (inClass (top 2) 0)) (defScope (inClass (top 2) 0)) [] [] (He.ma K (He.ga K "BadNet") "__init__") fd
 jc1:∃fd,FunD K "is_word" "is_word" (defArgs (top 40)) (defBody (top 40)) (defScope (top 40)) [] [] (He.ga K "is_word") fd
 jc2:∃fd,FunD K "is_place" "is_place" (defArgs (top 41)) (defBody (top 41)) (defScope (top 41)) [] [] (He.ga K "is_place") fd
 jc3:∃fd,FunD K "need_net" "need_net" (defArgs (top 44)) (defBody (top 44)) (defScope (top 44)) [] [] (He.ga K "need_net") fd
 jc4:∃fd,FunD K "__init__" "Net.__init__" (defArgs (inClass (top 45) 0)) (defBody (inClass (top 45) 0)) (defScope (inClass (top 45) 0)) [] [] (He.ma K (He.ga K "Net") "__init__") fd
 jc5:∃fd,FunD K "dated" "dated" (defArgs (top 47)) (defBody (top 47)) (defScope (top 47)) [] [] (He.ga K "dated") fd
 jc6:∃fd,FunD K "goes" "Net.goes" (defArgs (inClass (top 45) 1)) (defBody (inClass (top 45) 1)) (defScope (inClass (top 45) 1)) [] [] (He.ma K (He.ga K "Net") "goes") fd
 jc7:∃fd,FunD K "need_ride" "Net.need_ride" (defArgs (inClass (top 45) 2)) (defBody (inClass (top 45) 2)) (defScope (inClass (top 45) 2)) [] [] (He.ma K (He.ga K "Net") "need_ride") fd
 jc8:∃fd,FunD K "times" "times" (defArgs (top 48)) (defBody (top 48)) (defScope (top 48)) [] [] (He.ga K "times") fd
 jc9:∃fd,FunD K "need_place" "need_place" (defArgs (top 73)) (defBody (top 73)) (defScope (top 73)) [] [] (He.ga K "need_place") fd
 jdA:∃fd,FunD K "ways" "ways" (defArgs (top 75)) (defBody (top 75)) (defScope (top 75)) [] [("most",V.int 4)] (He.ga K "ways") fd
 jdB:∃fd,FunD K "need_turn" "need_turn" (defArgs (top 62)) (defBody (top 62)) (defScope (top 62)) [] [] (He.ga K "need_turn") fd
 jdC:∃fd,FunD K "fewest" "fewest" (defArgs (top 65)) (defBody (top 65)) (defScope (top 65)) [] [] (He.ga K "fewest") fd
 jdD:∃fd,FunD K "shown_planes" "shown_planes" (defArgs (top 67)) (defBody (top 67)) (defScope (top 67)) [] [] (He.ga K "shown_planes") fd
 jdE:∃fd,FunD K "need_rides" "need_rides" (defArgs (top 56)) (defBody (top 56)) (defScope (top 56)) [] [] (He.ga K "need_rides") fd
 jdF:∃fd,FunD K "cut" "cut" (defArgs (top 58)) (defBody (top 58)) (defScope (top 58)) [] [] (He.ga K "cut") fd
 jdG:∃fd,FunD K "_law_kind" "_law_kind" (defArgs (top 79)) (defBody (top 79)) (defScope (top 79)) [] [] (He.ga K "_law_kind") fd
 jdH:∃fd,FunD K "_law_is" "_law_is" (defArgs (top 85)) (defBody (top 85)) (defScope (top 85)) [] [] (He.ga K "_law_is") fd
 jdI:∃fd,FunD K "_law_is_leg" "_law_is_leg" (defArgs (top 87)) (defBody (top 87)) (defScope (top 87)) [] [] (He.ga K "_law_is_leg") fd
 jdJ:∃fd,FunD K "_law_is_place" "_law_is_place" (defArgs (top 86)) (defBody (top 86)) (defScope (top 86)) [] [] (He.ga K "_law_is_place") fd
 jdK:∃fd,FunD K "_law_bad" "_law_bad" (defArgs (top 88)) (defBody (top 88)) (defScope (top 88)) [] [] (He.ga K "_law_bad") fd
 jdL:∃fd,FunD K "_law_drawn" "_law_drawn" (defArgs (top 78)) (defBody (top 78)) (defScope (top 78)) [] [] (He.ga K "_law_drawn") fd
 jdM:∃fd,FunD K "_law_other" "_law_other" (defArgs (top 89)) (defBody (top 89)) (defScope (top 89)) [] [] (He.ga K "_law_other") fd
 jdN:∃fd,FunD K "_law_shuttle" "_law_shuttle" (defArgs (top 80)) (defBody (top 80)) (defScope (top 80)) [] [] (He.ga K "_law_shuttle") fd
 jdO:∃fd,FunD K "_law_net" "_law_net" (defArgs (top 81)) (defBody (top 81)) (defScope (top 81)) [] [] (He.ga K "_law_net") fd
 jdP:∃fd,FunD K "_law_great" "_law_great" (defArgs (top 90)) (defBody (top 90)) (defScope (top 90)) [] [] (He.ga K "_law_great") fd
 jdQ:∃fd,FunD K "_law_start" "_law_start" (defArgs (top 77)) (defBody (top 77)) (defScope (top 77)) [] [] (He.ga K "_law_start") fd
 jdR:∃fd,FunD K "law" "law" (defArgs (top 91)) (defBody (top 91)) (defScope (top 91)) [] [] (He.ga K "law") fd
abbrev m5:Stmt:=(top 39)
abbrev oS:List Str:=["thing","low","high"]
def fP:MS:=bW (gR (eB bJ (aB (eV 0) (aB (eC (.ty "int")) (aH)))) (gR (eNot (eB bJ (aB (eV 0) (aB (eC (.ty "bool")) (aH))))) (gT (lv dLe) (lv dLe) (eV 1) (eV 0) (eV 2))))
def aS:MF:=bF 0 fP
theorem bG (G:Gx P w K mg base):FnE P w K mg base 1 (He.ga K "is_number") ["thing","low","high"] aS:=by
 obtain ⟨fd,F⟩:=G.jcW
 have fx:=G.fx
 refine ⟨fd,?_⟩
 refine bA (N:=oS) (st:=m5) (k:=0) F zqH rfl nO fun cdv A outer s H E hcd hp hr W tk=>?_
 exact (aP (ae (dI (al cQ rfl fx.jcH aI (aA (aC 0) (aA (cJ rfl fx.jcG tZ) aE))) (dI (sz (al cQ rfl fx.jcH aI (aA (aC 0) (aA (cJ rfl fx.jcD qu) aE)))) (gS (nj pL pL (aC 1) (aC 0) (aC 2)))))))
abbrev m6:Stmt:=(top 46)
abbrev oU:List Str:=["first","last"]
def jq:MS:=sIf (cF (az (b7 (aR 3 aS (aB (eV 0) (aB (eC (.int 0)) (aB (eC (.int 60)) (aH))))))) (az (b7 (aR 3 aS (aB (eV 1) (aB (eV 0) (aB (eC (.int 60)) (aH)))))))) (gZ "BadDay") (bp)
def fQ:MF:=bF 0 jq
theorem m7 (G:Gx P w K mg base):FnE P w K mg base 2 (He.ga K "need_days") ["first","last"] fQ:=by
 obtain ⟨fd,F⟩:=G.jcX
 have fx:=G.fx
 refine ⟨fd,?_⟩
 refine bA (N:=oU) (st:=m6) (k:=1) F zqH rfl ju fun cdv A outer s H E hcd hp hr W tk=>?_
 exact (aP (aw (bI (bS (am (ao (aL (ps:=["thing","low","high"]) (m:=aS) (bG G) hr.m fx.jbI tk (aA (aC 0) (aA aD (aA (bZ fx.jbZ) aE)))))) (bQ (am (ao (aL (ps:=["thing","low","high"]) (m:=aS) (bG G) hr.m fx.jbI tk (aA (aC 1) (aA (aC 0) (aA (bZ fx.jbZ) aE))))))))) (aP (gb rfl tk fx.jcT fx.jaH rfl)) aX))
abbrev oV:Stmt:=(top 42)
abbrev N_are_days:List Str:=["days","day","one","other"]
def lD:MS:=aV (sIf (cF (az (b7 (eB bJ (aB (eV 0) (aB (eC (.ty "tuple")) (aH)))))) (cF (tOf (aJ (lv dEq) (eV 0) (cN (aH)))) (az (b7 (eB mX (aB (cE (fR (eV 0)) (gV 1) (b5) (aR 3 aS (aB (eV 1) (aB (eC (.int 0)) (aB (aJ (lv nS) (eC (.int 7)) (eC (.int 1))) (aH))))) [1]) (aH))))))) (bW (eC (.bool false))) (bp))
 (bW (eB mX (aB (cE (ql (aB (eV 0) (aB (kM (eV 0) (cq (eC (.int 1))) (pNo)) (aH)))) (fW 2 (bY (gV 2) (bY (gV 3) (gW)))) (b5) (aJ (lv dLt) (eV 2) (eV 3)) [2,3]) (aH))))
def fB:MF:=bF 3 lD
theorem oW (G:Gx P w K mg base):FnE P w K mg base 2 (He.ga K "are_days") ["days"] fB:=by
 obtain ⟨fd,F⟩:=G.jcY
 have fx:=G.fx
 refine ⟨fd,?_⟩
 refine bA (N:=N_are_days) (st:=oV) (k:=1) F zqH rfl lT fun cdv A outer s H E hcd hp hr W tk=>?_
 have nd:N_are_days.Nodup:=zqD
 have hu64:=gH hr
 exact (aG (aw (bI (bS (am (ao (al cQ rfl fx.jcH aI (aA (aC 0) (aA (cJ rfl fx.jcO aq) aE))))) (bS (aY (gF hu64) (aC 0) (av aE) zqW) (bQ (am (ao (al (tO rfl) rfl fx.jcC po (aA (cH (own:=[("day",1)]) rfl nd (cS (aC 0)) (blkOk_by zqR) (fun _ _ _ _ _=>(bL (i:=1) nd rfl zqE zqC)) (fun _ _ _ _ _=>cG) (fun _ _ _ _ _=>(aL (ps:=["thing","low","high"]) (m:=aS) (bG G) hr.m fx.jbI takes0 (aA (aC 1) (aA aD (aA (aN kI (bZ fx.jb7) aD) aE)))))) aE)))))))) (aP (ae bX)) aX)
  (aP (ae (al (tO rfl) rfl fx.jcC po (aA (cH (own:=[("one",2),("other",3)]) rfl nd (pI_zip rfl fx.jcP (aA (aC 0) (aA (gO (aC 0) (bt aD) eK) aE))) (blkOk_by zqR) (fun _ _ _ _ _=>(pT rfl (fX (bL (i:=2) nd rfl zqE zqC) (fX (bL (i:=3) nd rfl zqE zqC) mV)))) (fun _ _ _ _ _=>cG) (fun _ _ _ _ _=>(iL o_lt (aC 2) (aC 3) zqW))) aE)))))
abbrev sE:Stmt:=(top 43)
abbrev N_is_leg:List Str:=["leg","ahead","names","number","start","goal","out","long","days","fare","one"]
def oX:MS:=aV (sIf (cF (az (b7 (eB bJ (aB (eV 0) (aB (eC (.ty "tuple")) (aH)))))) (tOf (aJ (lv dNe) (eB b3 (aB (eV 0) (aH))) (eC (.int 7))))) (bW (eC (.bool false))) (bp))
 (aV (lU (eV 0) (fW 7 (bY (gV 3) (bY (gV 4) (bY (gV 5) (bY (gV 6) (bY (gV 7) (bY (gV 8) (bY (gV 9) (gW))))))))))
 (aV (sIf (cF (az (b7 (aR 3 aS (aB (eV 3) (aB (eC (.int 1)) (aB (eC (.int 9999)) (aH))))))) (tOf (aJ fIn (eV 3) (cE (fR (eV 1)) (gV 10) (b5) (aJ fIx (eV 10) (eC (.int 0))) [10])))) (bW (eC (.bool false))) (bp))
 (aV (sIf (cF (az (b7 (eB bJ (aB (eV 4) (aB (eC (.ty "str")) (aH)))))) (cF (az (b7 (eB bJ (aB (eV 5) (aB (eC (.ty "str")) (aH)))))) (tOf (aJ (lv dEq) (eV 4) (eV 5))))) (bW (eC (.bool false))) (bp))
 (aV (sIf (cF (tOf (aJ eh (eV 4) (eV 2))) (cF (tOf (aJ eh (eV 5) (eV 2))) (az (b7 (aR 1 fB (aB (eV 8) (aH))))))) (bW (eC (.bool false))) (bp))
 (bW (gR (aR 3 aS (aB (eV 6) (aB (eC (.int 0)) (aB (aJ (lv nS) (eC (.int 1440)) (eC (.int 1))) (aH))))) (gR (aR 3 aS (aB (eV 7) (aB (eC (.int 20)) (aB (eC (.int 900)) (aH))))) (aR 3 aS (aB (eV 9) (aB (eC (.int 1)) (aB (eC (.int 100000)) (aH))))))))))))
def fh:MF:=bF 8 oX
theorem sF (G:Gx P w K mg base):FnE P w K mg base 3 (He.ga K "is_leg") ["leg","ahead","names"] fh:=by
 obtain ⟨fd,F⟩:=G.jcZ
 have fx:=G.fx
 refine ⟨fd,?_⟩
 refine bA (N:=N_is_leg) (st:=sE) (k:=2) F zqH rfl nO fun cdv A outer s H E hcd hp hr W tk=>?_
 have nd:N_is_leg.Nodup:=zqD
 have hu1:=ru1 hr
 have hu64:=gH hr
 have hu65:=iR hr
 exact (aG (aw (bI (bS (am (ao (al cQ rfl fx.jcH aI (aA (aC 0) (aA (cJ rfl fx.jcO aq) aE))))) (bQ (aY (iB hu64) (al cU rfl fx.jcI br (aA (aC 0) aE)) aD zqW)))) (aP (ae bX)) aX)
  (aG (iP (aC 0) (kP rfl (bq (bE (i:=3) nd rfl zqE) (bq (bE (i:=4) nd rfl zqE) (bq (bE (i:=5) nd rfl zqE) (bq (bE (i:=6) nd rfl zqE) (bq (bE (i:=7) nd rfl zqE) (bq (bE (i:=8) nd rfl zqE) (bq (bE (i:=9) nd rfl zqE) ia)))))))))
  (aG (aw (bI (bS (am (ao (aL (ps:=["thing","low","high"]) (m:=aS) (bG G) hr.m fx.jbI tk (aA (aC 3) (aA aD (aA (bZ fx.jb3) aE)))))) (bQ (aY (pN hu65) (aC 3) (cH (own:=[("one",10)]) rfl nd (cS (aC 1)) (blkOk_by zqR) (fun _ _ _ _ _=>(bL (i:=10) nd rfl zqE zqC)) (fun _ _ _ _ _=>cG) (fun _ _ _ _ _=>(aU hu1 (aC 10) aD))) zqW)))) (aP (ae bX)) aX)
  (aG (aw (bI (bS (am (ao (al cQ rfl fx.jcH aI (aA (aC 4) (aA (cJ rfl fx.jcN kl) aE))))) (bS (am (ao (al cQ rfl fx.jcH aI (aA (aC 5) (aA (cJ rfl fx.jcN kl) aE))))) (bQ (aY (gF hu64) (aC 4) (aC 5) zqW))))) (aP (ae bX)) aX)
  (aG (aw (bI (bS (aY (ft hu65) (aC 4) (aC 2) zqW) (bS (aY (ft hu65) (aC 5) (aC 2) zqW) (bQ (am (ao (aL (ps:=["days"]) (m:=fB) (oW G) hr.m fx.jbD tk (aA (aC 8) aE)))))))) (aP (ae bX)) aX)
  (aP (ae (dI (aL (ps:=["thing","low","high"]) (m:=aS) (bG G) hr.m fx.jbI tk (aA (aC 6) (aA aD (aA (aN kI (bZ fx.jbU) aD) aE)))) (dI (aL (ps:=["thing","low","high"]) (m:=aS) (bG G) hr.m fx.jbI tk (aA (aC 7) (aA (bZ fx.jbW) (aA (bZ fx.jb2) aE)))) (gS (aL (ps:=["thing","low","high"]) (m:=aS) (bG G) hr.m fx.jbI tk (aA (aC 9) (aA aD (aA (bZ fx.jb0) aE))))))))))))))
theorem b8 (G:Gx P w K mg base):∃fd,FnOk P w K mg base C8.CX0 1 (He.ma K (He.ga K "BadNet") "__init__") fd ["self","part","number"] (spI (He.ga K "BadNet") ["part","number"])∧Binds K fd ["self","part","number"] []:=by
 obtain ⟨fd,F⟩:=G.jc0
 have fx:=G.fx
 exact ⟨fd,uI (k:=0) fx.jbT F zqH fx.jaD rfl rfl (fun _ _=>⟨plainOf _ _,rfl⟩),F.bindsN nO⟩
abbrev qK:Stmt:=(top 40)
abbrev N_is_word:List Str:=["thing","least","most","sign"]
def dF:MS:=aV (sIf (cF (az (b7 (eB bJ (aB (eV 0) (aB (eC (.ty "str")) (aH)))))) (az (tOf (gT (lv dLe) (lv dLe) (eV 1) (eB b3 (aB (eV 0) (aH))) (eV 2))))) (bW (eC (.bool false))) (bp))
 (bW (eB mX (aB (cE (fR (eV 0)) (gV 3) (b5) (aJ fIn (eV 3) (eC (.str "abcdefghijklmnopqrstuvwxyz"))) [3]) (aH))))
def bw:MF:=bF 1 dF
theorem qL (G:Gx P w K mg base):FnE P w K mg base 1 (He.ga K "is_word") ["thing","least","most"] bw:=by
 obtain ⟨fd,F⟩:=G.jc1
 have fx:=G.fx
 refine ⟨fd,?_⟩
 refine bA (N:=N_is_word) (st:=qK) (k:=0) F zqH rfl nO fun cdv A outer s H E hcd hp hr W tk=>?_
 have nd:N_is_word.Nodup:=zqD
 have hu65:=iR hr
 exact (aG (aw (bI (bS (am (ao (al cQ rfl fx.jcH aI (aA (aC 0) (aA (cJ rfl fx.jcN kl) aE))))) (bQ (am (tA pL pL (aC 1) (al cU rfl fx.jcI br (aA (aC 0) aE)) (aC 2)))))) (aP (ae bX)) aX)
  (aP (ae (al (tO rfl) rfl fx.jcC po (aA (cH (own:=[("sign",3)]) rfl nd (cS (aC 0)) (blkOk_by zqR) (fun _ _ _ _ _=>(bL (i:=3) nd rfl zqE zqC)) (fun _ _ _ _ _=>cG) (fun _ _ _ _ _=>(iL (pN hu65) (aC 3) (vM fx.jcQ) zqW))) aE)))))
abbrev oY:Stmt:=(top 41)
abbrev N_is_place:List Str:=["place","ahead","name","change"]
def lE:MS:=aV (sIf (cF (az (b7 (eB bJ (aB (eV 0) (aB (eC (.ty "tuple")) (aH)))))) (cF (tOf (aJ (lv dNe) (eB b3 (aB (eV 0) (aH))) (eC (.int 2)))) (az (b7 (aR 3 bw (aB (aJ fIx (eV 0) (eC (.int 0))) (aB (eC (.int 3)) (aB (eC (.int 3)) (aH))))))))) (bW (eC (.bool false))) (bp))
 (bW (gR (aJ eh (aJ fIx (eV 0) (eC (.int 0))) (cE (fR (eV 1)) (fW 2 (bY (gV 2) (bY (gV 3) (gW)))) (b5) (eV 2) [2,3])) (aR 3 aS (aB (aJ fIx (eV 0) (eC (.int 1))) (aB (eC (.int 10)) (aB (eC (.int 300)) (aH)))))))
def fC:MF:=bF 2 lE
theorem oZ (G:Gx P w K mg base):FnE P w K mg base 2 (He.ga K "is_place") ["place","ahead"] fC:=by
 obtain ⟨fd,F⟩:=G.jc2
 have fx:=G.fx
 refine ⟨fd,?_⟩
 refine bA (N:=N_is_place) (st:=oY) (k:=1) F zqH rfl ju fun cdv A outer s H E hcd hp hr W tk=>?_
 have nd:N_is_place.Nodup:=zqD
 have hu1:=ru1 hr
 have hu64:=gH hr
 have hu65:=iR hr
 exact (aG (aw (bI (bS (am (ao (al cQ rfl fx.jcH aI (aA (aC 0) (aA (cJ rfl fx.jcO aq) aE))))) (bS (aY (iB hu64) (al cU rfl fx.jcI br (aA (aC 0) aE)) aD zqW) (bQ (am (ao (aL (ps:=["thing","least","most"]) (m:=bw) (qL G) hr.m fx.jbK tk (aA (aU hu1 (aC 0) aD) (aA (bZ fx.jb6) (aA (bZ fx.jb6) aE)))))))))) (aP (ae bX)) aX)
  (aP (ae (dI (iL (ft hu65) (aU hu1 (aC 0) aD) (cH (own:=[("name",2),("change",3)]) rfl nd (cS (aC 1)) (blkOk_by zqR) (fun _ _ _ _ _=>(pT rfl (fX (bL (i:=2) nd rfl zqE zqC) (fX (bL (i:=3) nd rfl zqE zqC) mV)))) (fun _ _ _ _ _=>cG) (fun _ _ _ _ _=>(aC 2))) zqW) (gS (aL (ps:=["thing","low","high"]) (m:=aS) (bG G) hr.m fx.jbI tk (aA (aU hu1 (aC 0) aD) (aA (bZ fx.jbV) (aA (bZ fx.jbY) aE)))))))))
abbrev oa:Stmt:=(top 44)
abbrev N_need_net:List Str:=["net","places","legs","number","place","names","leg","name","change"]
def lF:MS:=aV (sIf (cF (az (b7 (eB bJ (aB (eV 0) (aB (eC (.ty "tuple")) (aH)))))) (tOf (aJ (lv dNe) (eB b3 (aB (eV 0) (aH))) (eC (.int 2))))) (eQ "BadNet" ["part","number"] (aB (eNeg (eC (.int 1))) (aB (eC (.int 0)) (aH)))) (bp))
 (aV (lU (eV 0) (fW 2 (bY (gV 1) (bY (gV 2) (gW)))))
 (aV (sIf (cF (az (b7 (eB bJ (aB (eV 1) (aB (eC (.ty "tuple")) (aH)))))) (tOf (aJ (lv dEq) (eV 1) (cN (aH))))) (eQ "BadNet" ["part","number"] (aB (eC (.int 0)) (aB (eC (.int 0)) (aH)))) (bp))
 (aV (jK (kQ (aB (eV 1) (aH))) (fW 2 (bY (gV 3) (bY (gV 4) (gW)))) (sIf (cF (tOf (aJ (lv dEq) (eV 3) (eC (.int 12)))) (az (b7 (aR 2 fC (aB (eV 4) (aB (kM (eV 1) (pNo) (cq (eV 3))) (aH))))))) (eQ "BadNet" ["part","number"] (aB (eC (.int 0)) (aB (eV 3) (aH)))) (bp)))
 (aV (sIf (az (b7 (eB bJ (aB (eV 2) (aB (eC (.ty "tuple")) (aH)))))) (eQ "BadNet" ["part","number"] (aB (eC (.int 1)) (aB (eC (.int 0)) (aH)))) (bp))
 (aV (ap 5 (cE (fR (eV 1)) (fW 2 (bY (gV 7) (bY (gV 8) (gW)))) (b5) (eV 7) [7,8]))
 (jK (kQ (aB (eV 2) (aH))) (fW 2 (bY (gV 3) (bY (gV 6) (gW)))) (sIf (cF (tOf (aJ (lv dEq) (eV 3) (eC (.int 60)))) (az (b7 (aR 3 fh (aB (eV 6) (aB (kM (eV 2) (pNo) (cq (eV 3))) (aB (eV 5) (aH)))))))) (eQ "BadNet" ["part","number"] (aB (eC (.int 1)) (aB (eV 3) (aH)))) (bp))))))))
def fD:MF:=bF 8 lF
theorem og (G:Gx P w K mg base):FnE P w K mg base 4 (He.ga K "need_net") ["net"] fD:=by
 obtain ⟨fd,F⟩:=G.jc3
 have fx:=G.fx
 refine ⟨fd,?_⟩
 refine bA (N:=N_need_net) (st:=oa) (k:=3) F zqH rfl lT fun cdv A outer s H E hcd hp hr W tk=>?_
 have nd:N_need_net.Nodup:=zqD
 have hu64:=gH hr
 exact (aG (aw (bI (bS (am (ao (al cQ rfl fx.jcH aI (aA (aC 0) (aA (cJ rfl fx.jcO aq) aE))))) (bQ (aY (iB hu64) (al cU rfl fx.jcI br (aA (aC 0) aE)) aD zqW)))) (aP (fb (ns:=["part","number"]) rfl tk fx.jbT (b8 G) hr.m fx.jaL rfl (aA (sE_neg aD) (aA aD aE)))) aX)
  (aG (iP (aC 0) (kP rfl (bq (bE (i:=1) nd rfl zqE) (bq (bE (i:=2) nd rfl zqE) ia))))
  (aG (aw (bI (bS (am (ao (al cQ rfl fx.jcH aI (aA (aC 1) (aA (cJ rfl fx.jcO aq) aE))))) (bQ (aY (gF hu64) (aC 1) (av aE) zqW)))) (aP (fb (ns:=["part","number"]) rfl tk fx.jbT (b8 G) hr.m fx.jaL rfl (aA aD (aA aD aE)))) aX)
  (aG (fS hp rfl (qk rfl fx.jcF (aA (aC 1) aE)) (kP rfl (bq (bE (i:=3) nd rfl zqE) (bq (bE (i:=4) nd rfl zqE) ia))) (aP (aw (bI (bS (aY (gF hu64) (aC 3) (bZ fx.jb4) zqW) (bQ (am (ao (aL (ps:=["place","ahead"]) (m:=fC) (oZ G) hr.m fx.jbJ tk (aA (aC 4) (aA (gO (aC 1) eK (bt (aC 3))) aE)))))))) (aP (fb (ns:=["part","number"]) rfl tk fx.jbT (b8 G) hr.m fx.jaL rfl (aA aD (aA (aC 3) aE)))) aX)))
  (aG (aw (am (ao (al cQ rfl fx.jcH aI (aA (aC 2) (aA (cJ rfl fx.jcO aq) aE))))) (aP (fb (ns:=["part","number"]) rfl tk fx.jbT (b8 G) hr.m fx.jaL rfl (aA aD (aA aD aE)))) aX)
  (aG (kW (own:=[("name",7),("change",8)]) (i:=5) rfl nd rfl rfl rfl (cS (aC 1)) (blkOk_by zqR) (fun _ _ _ _ _=>(pT rfl (fX (bL (i:=7) nd rfl zqE zqC) (fX (bL (i:=8) nd rfl zqE zqC) mV)))) (fun _ _ _ _ _=>cG) (fun _ _ _ _ _=>(aC 7)))
  (aP (fS hp rfl (qk rfl fx.jcF (aA (aC 2) aE)) (kP rfl (bq (bE (i:=3) nd rfl zqE) (bq (bE (i:=6) nd rfl zqE) ia))) (aP (aw (bI (bS (aY (gF hu64) (aC 3) (bZ fx.jb1) zqW) (bQ (am (ao (aL (ps:=["leg","ahead","names"]) (m:=fh) (sF G) hr.m fx.jbH tk (aA (aC 6) (aA (gO (aC 2) eK (bt (aC 3))) (aA (aC 5) aE))))))))) (aP (fb (ns:=["part","number"]) rfl tk fx.jbT (b8 G) hr.m fx.jaL rfl (aA aD (aA (aC 3) aE)))) aX))))))))))
abbrev lX:Stmt:=(inClass (top 45) 0)
abbrev N_Net_init__:List Str:=["self","net","places","legs","leg"]
def iw:MS:=aV (eq (aR 1 fD (aB (eV 1) (aH))))
 (aV (lU (eV 1) (fW 2 (bY (gV 2) (bY (gV 3) (gW)))))
 (aV (n0 "Net" "changes" (eV 0) (my (aB (eV 2) (aH))))
 (n0 "Net" "legs" (eV 0) (kj (fR (eV 3)) (gV 4) (b5) (aJ fIx (eV 4) (eC (.int 0))) (eV 4) [4]))))
def ai:MF:=bF 3 iw
theorem cK (G:Gx P w K mg base):FnE P w K mg base 5 (He.ma K (He.ga K "Net") "__init__") ["self","net"] ai:=by
 obtain ⟨fd,F⟩:=G.jc4
 have fx:=G.fx
 refine ⟨fd,?_⟩
 refine bA (N:=N_Net_init__) (st:=lX) (k:=4) F zqH rfl ju fun cdv A outer s H E hcd hp hr W tk=>?_
 have nd:N_Net_init__.Nodup:=zqD
 have hu1:=ru1 hr
 exact (aG (c7 (aL (ps:=["net"]) (m:=fD) (og G) hr.m fx.jbM tk (aA (aC 1) aE)))
  (aG (iP (aC 1) (kP rfl (bq (bE (i:=2) nd rfl zqE) (bq (bE (i:=3) nd rfl zqE) ia))))
  (aG (tN (uT rfl rfl fx.jcE vO (aA (aC 2) aE)) (aC 0) fx.jaR fx.jaC fx.jaA)
  (aP (tN (tV (own:=[("leg",4)]) rfl nd (cS (aC 3)) (blkOk_by zqR) (fun _ _ _ _ _=>(bL (i:=4) nd rfl zqE zqC)) (fun _ _ _ _ _=>cG) (fun _ _ _ _ _=>(aU hu1 (aC 4) aD)) (fun _ _ _ _ _=>(aC 4))) (aC 0) fx.jaR fx.jaC fx.jaB)))))
abbrev uU:Stmt:=(top 47)
abbrev N_dated:List Str:=["net","first","last","held"]
def rH:MS:=aV (ap 3 (iH "Net" 2 ai (aB (eV 0) (aH))))
 (aV (eq (aR 2 fQ (aB (eV 1) (aB (eV 2) (aH)))))
 (qH))
def hI:MF:=bF 1 rH
theorem uV (G:Gx P w K mg base):FnE P w K mg base 7 (He.ga K "dated") ["net","first","last"] hI:=by
 obtain ⟨fd,F⟩:=G.jc5
 have fx:=G.fx
 refine ⟨fd,?_⟩
 refine bA (N:=N_dated) (st:=uU) (k:=6) F zqH rfl nO fun cdv A outer s H E hcd hp hr W tk=>?_
 have nd:N_dated.Nodup:=zqD
 exact (aG (aZ (i:=3) nd rfl zqE (gv (ps:=["self","net"]) (mi:=ai) fx.jaR fx.jb8 (cK G) hr.m tk (aA (aC 0) aE)))
  (aG (c7 (aL (ps:=["first","last"]) (m:=fQ) (m7 G) hr.m fx.jbL tk (aA (aC 1) (aA (aC 2) aE))))
  g8))
abbrev oh:Stmt:=(inClass (top 45) 1)
abbrev qM:List Str:=["self","day","number"]
def qN:MS:=bW (gR (aR 3 aS (aB (eV 1) (aB (eC (.int 0)) (aB (eC (.int 60)) (aH))))) (gR (aJ fIn (eV 2) (eFld "Net" "legs" (eV 0))) (aJ fIn (aJ (lv jv) (eV 1) (eC (.int 7))) (aJ fIx (aJ fIx (eFld "Net" "legs" (eV 0)) (eV 2)) (eC (.int 5))))))
def iU:MF:=bF 0 qN
theorem oi (G:Gx P w K mg base):FnE P w K mg base 2 (He.ma K (He.ga K "Net") "goes") ["self","day","number"] iU:=by
 obtain ⟨fd,F⟩:=G.jc6
 have fx:=G.fx
 refine ⟨fd,?_⟩
 refine bA (N:=qM) (st:=oh) (k:=1) F zqH rfl nO fun cdv A outer s H E hcd hp hr W tk=>?_
 have hu1:=ru1 hr
 have hu65:=iR hr
 exact (aP (ae (dI (aL (ps:=["thing","low","high"]) (m:=aS) (bG G) hr.m fx.jbI tk (aA (aC 1) (aA aD (aA (bZ fx.jbZ) aE)))) (dI (iL (pN hu65) (aC 2) (pV (aC 0) fx.jaR fx.jaC fx.jaB) zqW) (gS (iL (pN hu65) (aN gK (aC 1) (bZ fx.jb7)) (aU hu1 (aU hu1 (pV (aC 0) fx.jaR fx.jaC fx.jaB) (aC 2)) aD) zqW))))))
abbrev jV:Stmt:=(inClass (top 45) 2)
abbrev N_Net_need_ride:List Str:=["self","ride","good"]
def gE:MS:=aV (ap 2 (gR (eB bJ (aB (eV 1) (aB (eC (.ty "tuple")) (aH)))) (gR (aJ (lv dEq) (eB b3 (aB (eV 1) (aH))) (eC (.int 2))) (aR 3 aS (aB (aJ fIx (eV 1) (eC (.int 1))) (aB (eC (.int 1)) (aB (eC (.int 9999)) (aH))))))))
 (sIf (cF (az (b7 (eV 2))) (az (b7 (ka "Net" "goes" 3 iU (eV 0) (aB (aJ fIx (eV 1) (eC (.int 0))) (aB (aJ fIx (eV 1) (eC (.int 1))) (aH))))))) (gZ "NoLeg") (bp))
def bx:MF:=bF 1 gE
theorem fi (G:Gx P w K mg base):FnE P w K mg base 3 (He.ma K (He.ga K "Net") "need_ride") ["self","ride"] bx:=by
 obtain ⟨fd,F⟩:=G.jc7
 have fx:=G.fx
 refine ⟨fd,?_⟩
 refine bA (N:=N_Net_need_ride) (st:=jV) (k:=2) F zqH rfl ju fun cdv A outer s H E hcd hp hr W tk=>?_
 have nd:N_Net_need_ride.Nodup:=zqD
 have hu1:=ru1 hr
 have hu64:=gH hr
 exact (aG (aZ (i:=2) nd rfl zqE (dI (al cQ rfl fx.jcH aI (aA (aC 1) (aA (cJ rfl fx.jcO aq) aE))) (dI (iL (gF hu64) (al cU rfl fx.jcI br (aA (aC 1) aE)) aD zqW) (gS (aL (ps:=["thing","low","high"]) (m:=aS) (bG G) hr.m fx.jbI tk (aA (aU hu1 (aC 1) aD) (aA aD (aA (bZ fx.jb3) aE))))))))
  (aP (aw (bI (bS (am (ao (aC 2))) (bQ (am (ao (mf (pl:=plainOf _ _) (ps:=["self","day","number"]) (m:=iU) (aC 0) fx.jaR fx.jaC fx.jb9 (oi G) hr.m tk (aA (aU hu1 (aC 1) aD) (aA (aU hu1 (aC 1) aD) aE)))))))) (aP (gb rfl tk fx.jcV fx.jaW rfl)) aX)))
abbrev uW:Stmt:=(top 48)
abbrev N_times:List Str:=["net","ride","held"]
def rJ:MS:=aV (ap 2 (iH "Net" 2 ai (aB (eV 0) (aH))))
 (aV (eq (ka "Net" "need_ride" 2 bx (eV 2) (aB (eV 1) (aH))))
 (qH))
def hJ:MF:=bF 1 rJ
theorem uX (G:Gx P w K mg base):FnE P w K mg base 7 (He.ga K "times") ["net","ride"] hJ:=by
 obtain ⟨fd,F⟩:=G.jc8
 have fx:=G.fx
 refine ⟨fd,?_⟩
 refine bA (N:=N_times) (st:=uW) (k:=6) F zqH rfl ju fun cdv A outer s H E hcd hp hr W tk=>?_
 have nd:N_times.Nodup:=zqD
 exact (aG (aZ (i:=2) nd rfl zqE (gv (ps:=["self","net"]) (mi:=ai) fx.jaR fx.jb8 (cK G) hr.m tk (aA (aC 0) aE)))
  (aG (c7 (mf (pl:=plainOf _ _) (ps:=["self","ride"]) (m:=bx) (aC 2) fx.jaR fx.jaC fx.jcA (fi G) hr.m tk (aA (aC 1) aE)))
  g8))
abbrev lY:Stmt:=(top 73)
abbrev m8:List Str:=["held","place"]
def ix:MS:=sIf (cF (az (b7 (eB bJ (aB (eV 1) (aB (eC (.ty "str")) (aH)))))) (tOf (aJ eh (eV 1) (eFld "Net" "changes" (eV 0))))) (gZ "BadPlace") (bp)
def eS:MF:=bF 0 ix
theorem lZ (G:Gx P w K mg base):FnE P w K mg base 1 (He.ga K "need_place") ["held","place"] eS:=by
 obtain ⟨fd,F⟩:=G.jc9
 have fx:=G.fx
 refine ⟨fd,?_⟩
 refine bA (N:=m8) (st:=lY) (k:=0) F zqH rfl ju fun cdv A outer s H E hcd hp hr W tk=>?_
 have hu65:=iR hr
 exact (aP (aw (bI (bS (am (ao (al cQ rfl fx.jcH aI (aA (aC 1) (aA (cJ rfl fx.jcN kl) aE))))) (bQ (aY (ft hu65) (aC 1) (pV (aC 0) fx.jaR fx.jaC fx.jaA) zqW)))) (aP (gb rfl tk fx.jcU fx.jaM rfl)) aX))
abbrev vv:Stmt:=(top 75)
abbrev N_ways:List Str:=["net","start","goal","when","most","held","first","rides","told","ride"]
def uY:MS:=aV (ap 5 (iH "Net" 2 ai (aB (eV 0) (aH))))
 (aV (eq (aR 2 eS (aB (eV 5) (aB (eV 1) (aH)))))
 (qH))
def jW:MF:=bF 5 uY
theorem vw (G:Gx P w K mg base):FnKw P w K mg base 7 (He.ga K "ways") ["net","start","goal","when","most"] 4 "most" 4 jW:=by
 have fx:=G.fx
 refine fn_okK (N:=N_ways) (st:=vv) (k:=6) (a:=4) G.jdA zqH rfl rfl (fun _ _ _ _ _ _ us ks hl hk=>match us,ks,hl,hk with|[_,_,_,_],[_],_,_=>⟨_,_,_,_,_,_,rfl,rfl,rfl⟩) (fun _ _ _ _ _ _ us ks hl hk=>match us,ks,hl,hk with|[_,_,_,_],[_],_,_=>rfl) fun cdv A outer s H E hp hr W tk=>?_
 have nd:N_ways.Nodup:=zqD
 exact (aG (aZ (i:=5) nd rfl zqE (gv (ps:=["self","net"]) (mi:=ai) fx.jaR fx.jb8 (cK G) hr.m tk (aA (aC 0) aE)))
  (aG (c7 (aL (ps:=["held","place"]) (m:=eS) (lZ G) hr.m fx.jbN tk (aA (aC 5) (aA (aC 1) aE))))
  g8))
abbrev m9:Stmt:=(top 62)
abbrev oj:List Str:=["turn"]
def gd:MS:=sIf (az (b7 (aR 3 aS (aB (eV 0) (aB (eC (.int 10)) (aB (eC (.int 300)) (aH))))))) (gZ "BadCount") (bp)
def cW:MF:=bF 0 gd
theorem iy (G:Gx P w K mg base):FnE P w K mg base 2 (He.ga K "need_turn") ["turn"] cW:=by
 obtain ⟨fd,F⟩:=G.jdB
 have fx:=G.fx
 refine ⟨fd,?_⟩
 refine bA (N:=oj) (st:=m9) (k:=1) F zqH rfl lT fun cdv A outer s H E hcd hp hr W tk=>?_
 exact (aP (aw (am (ao (aL (ps:=["thing","low","high"]) (m:=aS) (bG G) hr.m fx.jbI tk (aA (aC 0) (aA (bZ fx.jbX) (aA (bZ fx.jb5) aE)))))) (aP (gb rfl tk fx.jcS fx.jaG rfl)) aX))
abbrev sG:Stmt:=(top 65)
abbrev N_fewest:List Str:=["net","turn","first","last","held","matcher","chains"]
def ol:MS:=aV (ap 4 (iH "Net" 2 ai (aB (eV 0) (aH))))
 (aV (eq (aR 1 cW (aB (eV 1) (aH))))
 (qH))
def fj:MF:=bF 3 ol
theorem sH (G:Gx P w K mg base):FnE P w K mg base 7 (He.ga K "fewest") ["net","turn","first","last"] fj:=by
 obtain ⟨fd,F⟩:=G.jdC
 have fx:=G.fx
 refine ⟨fd,?_⟩
 refine bA (N:=N_fewest) (st:=sG) (k:=6) F zqH rfl zqM4 fun cdv A outer s H E hcd hp hr W tk=>?_
 have nd:N_fewest.Nodup:=zqD
 exact (aG (aZ (i:=4) nd rfl zqE (gv (ps:=["self","net"]) (mi:=ai) fx.jaR fx.jb8 (cK G) hr.m tk (aA (aC 0) aE)))
  (aG (c7 (aL (ps:=["turn"]) (m:=cW) (iy G) hr.m fx.jbP tk (aA (aC 1) aE)))
  g8))
abbrev jz:Stmt:=(top 67)
abbrev N_shown_planes:List Str:=["net","turn","first","last","cover","held","rides","one","other","end"]
def ge:MS:=aV (ap 5 (iH "Net" 2 ai (aB (eV 0) (aH))))
 (aV (eq (aR 1 cW (aB (eV 1) (aH))))
 (qH))
def b9:MF:=bF 5 ge
theorem j0 (G:Gx P w K mg base):FnE P w K mg base 7 (He.ga K "shown_planes") ["net","turn","first","last","cover"] b9:=by
 obtain ⟨fd,F⟩:=G.jdD
 have fx:=G.fx
 refine ⟨fd,?_⟩
 refine bA (N:=N_shown_planes) (st:=jz) (k:=6) F zqH rfl zqM5 fun cdv A outer s H E hcd hp hr W tk=>?_
 have nd:N_shown_planes.Nodup:=zqD
 exact (aG (aZ (i:=5) nd rfl zqE (gv (ps:=["self","net"]) (mi:=ai) fx.jaR fx.jb8 (cK G) hr.m tk (aA (aC 0) aE)))
  (aG (c7 (aL (ps:=["turn"]) (m:=cW) (iy G) hr.m fx.jbP tk (aA (aC 1) aE)))
  g8))
abbrev lc:Stmt:=(top 56)
abbrev N_need_rides:List Str:=["held","rides","ride"]
def iz:MS:=aV (sIf (cF (az (b7 (eB bJ (aB (eV 1) (aB (eC (.ty "tuple")) (aH)))))) (tOf (aJ (lv dEq) (eV 1) (cN (aH))))) (gZ "BadChain") (bp))
 (jK (fR (eV 1)) (gV 2) (eq (ka "Net" "need_ride" 2 bx (eV 0) (aB (eV 2) (aH)))))
def eT:MF:=bF 1 iz
theorem ld (G:Gx P w K mg base):FnE P w K mg base 4 (He.ga K "need_rides") ["held","rides"] eT:=by
 obtain ⟨fd,F⟩:=G.jdE
 have fx:=G.fx
 refine ⟨fd,?_⟩
 refine bA (N:=N_need_rides) (st:=lc) (k:=3) F zqH rfl ju fun cdv A outer s H E hcd hp hr W tk=>?_
 have nd:N_need_rides.Nodup:=zqD
 have hu64:=gH hr
 exact (aG (aw (bI (bS (am (ao (al cQ rfl fx.jcH aI (aA (aC 1) (aA (cJ rfl fx.jcO aq) aE))))) (bQ (aY (gF hu64) (aC 1) (av aE) zqW)))) (aP (gb rfl tk fx.jcR fx.jaE rfl)) aX)
  (aP (fS hp rfl (cS (aC 1)) (bE (i:=2) nd rfl zqE) (aP (c7 (mf (pl:=plainOf _ _) (ps:=["self","ride"]) (m:=bx) (aC 0) fx.jaR fx.jaC fx.jcA (fi G) hr.m tk (aA (aC 2) aE)))))))
abbrev st_cut:Stmt:=(top 58)
abbrev N_cut:List Str:=["net","rides","held","found","begin","end"]
def b_cut:MS:=aV (ap 2 (iH "Net" 2 ai (aB (eV 0) (aH))))
 (aV (eq (aR 2 eT (aB (eV 2) (aB (eV 1) (aH)))))
 (qH))
def mD:MF:=bF 4 b_cut
theorem ok_cut (G:Gx P w K mg base):FnE P w K mg base 7 (He.ga K "cut") ["net","rides"] mD:=by
 obtain ⟨fd,F⟩:=G.jdF
 have fx:=G.fx
 refine ⟨fd,?_⟩
 refine bA (N:=N_cut) (st:=st_cut) (k:=6) F zqH rfl ju fun cdv A outer s H E hcd hp hr W tk=>?_
 have nd:N_cut.Nodup:=zqD
 exact (aG (aZ (i:=2) nd rfl zqE (gv (ps:=["self","net"]) (mi:=ai) fx.jaR fx.jb8 (cK G) hr.m tk (aA (aC 0) aE)))
  (aG (c7 (aL (ps:=["held","rides"]) (m:=eT) (ld G) hr.m fx.jbO tk (aA (aC 2) (aA (aC 1) aE))))
  g8))
abbrev gf:Stmt:=(top 79)
abbrev N_law_kind:List Str:=["_law_work","e","_law_kinds","_law_words","_law_word"]
def gg (C:Str) (ea:Addr) (dd:Option Addr) (kt:D→Option Bool):MS:=aV (ap 2 (cO (aB (eB (cr ea dd kt) (aB (eV 1) (aB (eC (.glo "BadNet")) (aH)))) (aB (eB (cr ea dd kt) (aB (eV 1) (aB (eC (.glo "BadFleet")) (aH)))) (aB (eB (cr ea dd kt) (aB (eV 1) (aB (eC (.glo "BadClasses")) (aH)))) (aB (eB (cr ea dd kt) (aB (eV 1) (aB (eC (.glo "BadDay")) (aH)))) (aH)))))))
 (aV (ap 2 (aJ (lv0 bH) (eV 2) (cO (aB (eB (cr ea dd kt) (aB (eV 1) (aB (eC (.glo "BadPlace")) (aH)))) (aB (eB (cr ea dd kt) (aB (eV 1) (aB (eC (.glo "BadTime")) (aH)))) (aB (eB (cr ea dd kt) (aB (eV 1) (aB (eC (.glo "BadCount")) (aH)))) (aH)))))))
 (aV (ap 2 (aJ (lv0 bH) (eV 2) (cO (aB (eB (cr ea dd kt) (aB (eV 1) (aB (eC (.glo "BadChain")) (aH)))) (aB (eB (cr ea dd kt) (aB (eV 1) (aB (eC (.glo "NoDuty")) (aH)))) (aB (eB (cr ea dd kt) (aB (eV 1) (aB (eC (.glo "NoLeg")) (aH)))) (aB (eB (cr ea dd kt) (aB (eV 1) (aB (eC (.glo "NoPlane")) (aH)))) (aH))))))))
 (aV (ap 2 (aJ (lv0 bH) (eV 2) (cO (aB (eB (cr ea dd kt) (aB (eV 1) (aB (eC (.glo "NoKind")) (aH)))) (aB (eB (cr ea dd kt) (aB (eV 1) (aB (eC (.glo "Taken")) (aH)))) (aB (eB (cr ea dd kt) (aB (eV 1) (aB (eC (.glo "CannotFly")) (aH)))) (aB (eB (cr ea dd kt) (aB (eV 1) (aB (eC (.glo "NoWay")) (aH)))) (aH))))))))
 (aV (ap 2 (aJ (lv0 bH) (eV 2) (cO (aB (eB (cr ea dd kt) (aB (eV 1) (aB (eC (.glo "NoSeat")) (aH)))) (aB (eB (cr ea dd kt) (aB (eV 1) (aB (eC (.glo "NoClass")) (aH)))) (aB (eB (cr ea dd kt) (aB (eV 1) (aB (eC (.glo "BadName")) (aH)))) (aH)))))))
 (aV (ap 2 (aJ (lv0 bH) (eV 2) (cO (aB (eB (cr ea dd kt) (aB (eV 1) (aB (eC (.glo "NoBooking")) (aH)))) (aB (eB (cr ea dd kt) (aB (eV 1) (aB (eC (.glo "Left")) (aH)))) (aB (eB (cr ea dd kt) (aB (eV 1) (aB (eC (.glo "Unmended")) (aH)))) (aH)))))))
 (aV (ap 2 (aJ (lv0 bH) (eV 2) (cO (aB (eB (cr ea dd kt) (aB (eV 1) (aB (eC (.glo "BadDeed")) (aH)))) (aB (eB (cr ea dd kt) (aB (eV 1) (aB (eC (.glo "BadText")) (aH)))) (aH))))))
 (aV (ap 3 (eC (.str "BadNet BadFleet BadClasses BadDay BadPlace BadTime BadCount BadChain NoDuty NoLeg NoPlane")))
 (aV (ap 3 (aJ (lv0 bH) (eV 3) (eC (.str " NoKind Taken CannotFly NoWay NoSeat NoClass BadName NoBooking Left Unmended"))))
 (aV (ap 3 (aJ (lv0 bH) (eV 3) (eC (.str " BadDeed BadText"))))
 (aV (sIf (cF (tOf (aJ (lv dNe) (eM eD pd (eV 2) (aB (eC (.bool true)) (aH))) (eC (.int 1)))) (az (b7 (eB (cr ea dd kt) (aB (eV 1) (aB (eC (.ty "ValueError")) (aH))))))) (bW (eC (.str "other"))) (bp))
 (aV (ap 4 (aJ fIx (eM pW ph (eV 3) (aB (eC (.str " ")) (aH))) (eM eD pf (eV 2) (aB (eC (.bool true)) (aH)))))
 (aV (sIf (tOf (aJ fIn (eV 4) (cN (aB (eC (.str "BadNet")) (aB (eC (.str "BadFleet")) (aH)))))) (bW (cN (aB (eV 4) (aB (eXf ea dd ((ck C).contains "part") "part" (eV 1)) (aB (eXf ea dd ((ck C).contains "number") "number" (eV 1)) (aH)))))) (bp))
 (aV (sIf (tOf (aJ fIn (eV 4) (cN (aB (eC (.str "BadClasses")) (aB (eC (.str "BadDeed")) (aH)))))) (bW (cN (aB (eV 4) (aB (eXf ea dd ((ck C).contains "number") "number" (eV 1)) (aH))))) (bp))
 (bW (eIf (tOf (aJ (lv dEq) (eV 4) (eC (.str "BadText")))) (cN (aB (eV 4) (aB (eXf ea dd ((ck C).contains "row") "row" (eV 1)) (aH)))) (eV 4))))))))))))))))
abbrev hdK:Hdr:=oB kindsHere
theorem nA {C:Str} {fs:List (Str × D)} {r:D} (h:hdK C fs=some r):C∈kindsHere∧fs.map (·.1)=ck C∧r=if fs=[] then .str C else .tup (.str C::(fs.map (·.2)).reverse):=by
 unfold hdK oB at h
 split at h
 ·rename_i hc
  cases h
  exact ⟨List.contains_iff_mem.mp hc.1,hc.2,rfl⟩
 ·cases h
theorem uZ:∀C∈kindsHere,∀(fs:List (Str × D)) (ea:Addr) (dd:Option Addr) (S:Sto),fs.map (·.1)=ck C→DdK fs dd→gg C ea dd (ktK C) ((List.replicate 5 none).set 1 (some (exD ea fs dd))) S=.ret (if fs=[] then .str C else .tup (.str C::(fs.map (·.2)).reverse)) S:=by
 intro C hC fs ea dd S hf hd
 unfold kindsHere at hC
 simp only[List.mem_cons,List.not_mem_nil,or_false] at hC
 rcases hC with rfl|rfl|rfl|rfl|rfl|rfl
 ·
  obtain ⟨rfl,rfl⟩:=im (hf.trans zqD) hd
  unfold gg
  refine aO (gw (aM rfl zqD (aM rfl zqD (aM rfl zqD (aM rfl zqD rfl)))) zqS) ?_
  refine aO (af rfl (aM rfl zqD (aM rfl zqD (aM rfl zqD rfl))) zqS zqS) ?_
  refine aO (af rfl (aM rfl zqD (aM rfl zqD (aM rfl zqD (aM rfl zqD rfl)))) zqS zqS) ?_
  refine aO (af rfl (aM rfl zqD (aM rfl zqD (aM rfl zqD (aM rfl zqD rfl)))) zqS zqS) ?_
  refine aO (af rfl (aM rfl zqD (aM rfl zqD (aM rfl zqD rfl))) zqS zqS) ?_
  refine aO (af rfl (aM rfl zqD (aM rfl zqD (aM rfl zqD rfl))) zqS zqS) ?_
  refine aO (af rfl (aM rfl zqD (aM rfl zqD rfl)) zqS zqS) ?_
  refine aO l4 ?_
  refine aO (c8 rfl zqD) ?_
  refine aO (c8 rfl zqD) ?_
  refine aO (l5 (jP zqR (fZ rfl rfl))) ?_
  kernel_rfl
 ·
  obtain ⟨x,y,d,rfl,rfl⟩:=ex_two (hf.trans (show ck "BadNet"=(["number","part"]:List Str) by decide +kernel)) hd
  unfold gg
  refine aO (gw (aM rfl zqD (aM rfl zqD (aM rfl zqD (aM rfl zqD rfl)))) zqS) ?_
  refine aO (af rfl (aM rfl zqD (aM rfl zqD (aM rfl zqD rfl))) zqS zqS) ?_
  refine aO (af rfl (aM rfl zqD (aM rfl zqD (aM rfl zqD (aM rfl zqD rfl)))) zqS zqS) ?_
  refine aO (af rfl (aM rfl zqD (aM rfl zqD (aM rfl zqD (aM rfl zqD rfl)))) zqS zqS) ?_
  refine aO (af rfl (aM rfl zqD (aM rfl zqD (aM rfl zqD rfl))) zqS zqS) ?_
  refine aO (af rfl (aM rfl zqD (aM rfl zqD (aM rfl zqD rfl))) zqS zqS) ?_
  refine aO (af rfl (aM rfl zqD (aM rfl zqD rfl)) zqS zqS) ?_
  refine aO l4 ?_
  refine aO (c8 rfl zqD) ?_
  refine aO (c8 rfl zqD) ?_
  refine aO (l5 (jP zqR (fZ rfl rfl))) ?_
  refine aO (set_ok (d:=.str "BadNet") zqR) ?_
  exact (vR (x:=y) (y:=x) zqR rfl rfl rfl rfl zqD zqD).trans zqS
 ·
  obtain ⟨rfl,rfl⟩:=im (hf.trans zqD) hd
  unfold gg
  refine aO (gw (aM rfl zqD (aM rfl zqD (aM rfl zqD (aM rfl zqD rfl)))) zqS) ?_
  refine aO (af rfl (aM rfl zqD (aM rfl zqD (aM rfl zqD rfl))) zqS zqS) ?_
  refine aO (af rfl (aM rfl zqD (aM rfl zqD (aM rfl zqD (aM rfl zqD rfl)))) zqS zqS) ?_
  refine aO (af rfl (aM rfl zqD (aM rfl zqD (aM rfl zqD (aM rfl zqD rfl)))) zqS zqS) ?_
  refine aO (af rfl (aM rfl zqD (aM rfl zqD (aM rfl zqD rfl))) zqS zqS) ?_
  refine aO (af rfl (aM rfl zqD (aM rfl zqD (aM rfl zqD rfl))) zqS zqS) ?_
  refine aO (af rfl (aM rfl zqD (aM rfl zqD rfl)) zqS zqS) ?_
  refine aO l4 ?_
  refine aO (c8 rfl zqD) ?_
  refine aO (c8 rfl zqD) ?_
  refine aO (l5 (jP zqR (fZ rfl rfl))) ?_
  kernel_rfl
 ·
  obtain ⟨rfl,rfl⟩:=im (hf.trans zqD) hd
  unfold gg
  refine aO (gw (aM rfl zqD (aM rfl zqD (aM rfl zqD (aM rfl zqD rfl)))) zqS) ?_
  refine aO (af rfl (aM rfl zqD (aM rfl zqD (aM rfl zqD rfl))) zqS zqS) ?_
  refine aO (af rfl (aM rfl zqD (aM rfl zqD (aM rfl zqD (aM rfl zqD rfl)))) zqS zqS) ?_
  refine aO (af rfl (aM rfl zqD (aM rfl zqD (aM rfl zqD (aM rfl zqD rfl)))) zqS zqS) ?_
  refine aO (af rfl (aM rfl zqD (aM rfl zqD (aM rfl zqD rfl))) zqS zqS) ?_
  refine aO (af rfl (aM rfl zqD (aM rfl zqD (aM rfl zqD rfl))) zqS zqS) ?_
  refine aO (af rfl (aM rfl zqD (aM rfl zqD rfl)) zqS zqS) ?_
  refine aO l4 ?_
  refine aO (c8 rfl zqD) ?_
  refine aO (c8 rfl zqD) ?_
  refine aO (l5 (jP zqR (fZ rfl rfl))) ?_
  kernel_rfl
 ·
  obtain ⟨rfl,rfl⟩:=im (hf.trans zqD) hd
  unfold gg
  refine aO (gw (aM rfl zqD (aM rfl zqD (aM rfl zqD (aM rfl zqD rfl)))) zqS) ?_
  refine aO (af rfl (aM rfl zqD (aM rfl zqD (aM rfl zqD rfl))) zqS zqS) ?_
  refine aO (af rfl (aM rfl zqD (aM rfl zqD (aM rfl zqD (aM rfl zqD rfl)))) zqS zqS) ?_
  refine aO (af rfl (aM rfl zqD (aM rfl zqD (aM rfl zqD (aM rfl zqD rfl)))) zqS zqS) ?_
  refine aO (af rfl (aM rfl zqD (aM rfl zqD (aM rfl zqD rfl))) zqS zqS) ?_
  refine aO (af rfl (aM rfl zqD (aM rfl zqD (aM rfl zqD rfl))) zqS zqS) ?_
  refine aO (af rfl (aM rfl zqD (aM rfl zqD rfl)) zqS zqS) ?_
  refine aO l4 ?_
  refine aO (c8 rfl zqD) ?_
  refine aO (c8 rfl zqD) ?_
  refine aO (l5 (jP zqR (fZ rfl rfl))) ?_
  kernel_rfl
 ·
  obtain ⟨rfl,rfl⟩:=im (hf.trans zqD) hd
  unfold gg
  refine aO (gw (aM rfl zqD (aM rfl zqD (aM rfl zqD (aM rfl zqD rfl)))) zqS) ?_
  refine aO (af rfl (aM rfl zqD (aM rfl zqD (aM rfl zqD rfl))) zqS zqS) ?_
  refine aO (af rfl (aM rfl zqD (aM rfl zqD (aM rfl zqD (aM rfl zqD rfl)))) zqS zqS) ?_
  refine aO (af rfl (aM rfl zqD (aM rfl zqD (aM rfl zqD (aM rfl zqD rfl)))) zqS zqS) ?_
  refine aO (af rfl (aM rfl zqD (aM rfl zqD (aM rfl zqD rfl))) zqS zqS) ?_
  refine aO (af rfl (aM rfl zqD (aM rfl zqD (aM rfl zqD rfl))) zqS zqS) ?_
  refine aO (af rfl (aM rfl zqD (aM rfl zqD rfl)) zqS zqS) ?_
  refine aO l4 ?_
  refine aO (c8 rfl zqD) ?_
  refine aO (c8 rfl zqD) ?_
  refine aO (l5 (jP zqR (fZ rfl rfl))) ?_
  kernel_rfl
theorem vy (G:Gx P w K mg base):KindF P w K mg base 7 "_law_kind" (He.ga K "_law_kind") hdK:=by
 obtain ⟨fd,F⟩:=G.jdG
 have fx:=G.fx
 have nd:N_law_kind.Nodup:=zqD
 have b:=F.bindsN (ps:=["_law_work"]) lT
 have kp:=F.kp
 obtain ⟨oc,od,dV,kV,doc,pm,an,cdv,ct,osl,rfl,lk,hcd,hD,_⟩:=F.ex
 refine ⟨⟨defArgs gf,defBody gf,defScope gf,dV,kV,doc,pm,cdv,ct,oc,an,od,osl,N_law_kind,"_law_work",lk,hcd,b,⟨rfl,rfl,rfl,nd,rfl,zqD,zqD⟩,rfl,.inl rfl,by decide,by decide,fun X hP hw hK hmg hb hr q=>?_⟩,kp⟩
 subst hP hw hK hmg hb
 refine pi (e:="e") (i:=1) (ec:="AirError") (CS:=He.ga X.K "AirError") (sm:=fun C ea dd=>gg C ea dd (ktK C)) nd rfl rfl rfl G.kx.air zqC (fun _=>rfl) (fun C fs r hC Da hDa=>?_) (fun s H ea Da oe pn C fs dd r m1 m4 hdk hz hf=>?_) (fun C fs ea dd S r hC hdk=>?_)
 ·have hm:=(nA hC).1
  rw[G.kx.gl C (G.kx.sub C hm)] at hDa
  cases hDa
  exact G.kx.exm C hm
 ·have hm:=(nA m4).1
  rw[G.kx.gl C (G.kx.sub C hm)] at m1
  cases m1
  have hC:=G.kx.exc C hm
  have hk:=hk_of G.kx hm
  have hun:=hr.un
  have hu1:X.A.units+3+1<cLine:=zqO
  have hu64:X.A.units+3+64<cLine:=zqO
  have hu65:X.A.units+3+65<cLine:=zqO
  exact (aG (aZ (i:=2) nd rfl zqE (bD (aA (al (cR hC hz hf hk) rfl fx.jcH aI (aA (aC 1) (aA (bn rfl fx.jaL) aE))) (aA (al (cR hC hz hf hk) rfl fx.jcH aI (aA (aC 1) (aA (bn rfl fx.jaJ) aE))) (aA (al (cR hC hz hf hk) rfl fx.jcH aI (aA (aC 1) (aA (bn rfl fx.jaF) aE))) (aA (al (cR hC hz hf hk) rfl fx.jcH aI (aA (aC 1) (aA (bn rfl fx.jaH) aE))) aE))))))
  (aG (aZ (i:=2) nd rfl zqE (aN ar (aC 2) (bD (aA (al (cR hC hz hf hk) rfl fx.jcH aI (aA (aC 1) (aA (bn rfl fx.jaM) aE))) (aA (al (cR hC hz hf hk) rfl fx.jcH aI (aA (aC 1) (aA (bn rfl fx.jaO) aE))) (aA (al (cR hC hz hf hk) rfl fx.jcH aI (aA (aC 1) (aA (bn rfl fx.jaG) aE))) aE))))))
  (aG (aZ (i:=2) nd rfl zqE (aN ar (aC 2) (bD (aA (al (cR hC hz hf hk) rfl fx.jcH aI (aA (aC 1) (aA (bn rfl fx.jaE) aE))) (aA (al (cR hC hz hf hk) rfl fx.jcH aI (aA (aC 1) (aA (bn rfl fx.jaU) aE))) (aA (al (cR hC hz hf hk) rfl fx.jcH aI (aA (aC 1) (aA (bn rfl fx.jaW) aE))) (aA (al (cR hC hz hf hk) rfl fx.jcH aI (aA (aC 1) (aA (bn rfl fx.jaX) aE))) aE)))))))
  (aG (aZ (i:=2) nd rfl zqE (aN ar (aC 2) (bD (aA (al (cR hC hz hf hk) rfl fx.jcH aI (aA (aC 1) (aA (bn rfl fx.jaV) aE))) (aA (al (cR hC hz hf hk) rfl fx.jcH aI (aA (aC 1) (aA (bn rfl fx.ja0) aE))) (aA (al (cR hC hz hf hk) rfl fx.jcH aI (aA (aC 1) (aA (bn rfl fx.jaP) aE))) (aA (al (cR hC hz hf hk) rfl fx.jcH aI (aA (aC 1) (aA (bn rfl fx.jaZ) aE))) aE)))))))
  (aG (aZ (i:=2) nd rfl zqE (aN ar (aC 2) (bD (aA (al (cR hC hz hf hk) rfl fx.jcH aI (aA (aC 1) (aA (bn rfl fx.jaY) aE))) (aA (al (cR hC hz hf hk) rfl fx.jcH aI (aA (aC 1) (aA (bn rfl fx.jaT) aE))) (aA (al (cR hC hz hf hk) rfl fx.jcH aI (aA (aC 1) (aA (bn rfl fx.jaK) aE))) aE))))))
  (aG (aZ (i:=2) nd rfl zqE (aN ar (aC 2) (bD (aA (al (cR hC hz hf hk) rfl fx.jcH aI (aA (aC 1) (aA (bn rfl fx.jaS) aE))) (aA (al (cR hC hz hf hk) rfl fx.jcH aI (aA (aC 1) (aA (bn rfl fx.jaQ) aE))) (aA (al (cR hC hz hf hk) rfl fx.jcH aI (aA (aC 1) (aA (bn rfl fx.ja1) aE))) aE))))))
  (aG (aZ (i:=2) nd rfl zqE (aN ar (aC 2) (bD (aA (al (cR hC hz hf hk) rfl fx.jcH aI (aA (aC 1) (aA (bn rfl fx.jaI) aE))) (aA (al (cR hC hz hf hk) rfl fx.jcH aI (aA (aC 1) (aA (bn rfl fx.jaN) aE))) aE)))))
  (aG (aZ (i:=3) nd rfl zqE ak)
  (aG (aZ (i:=3) nd rfl zqE (aN ar (aC 3) ak))
  (aG (aZ (i:=3) nd rfl zqE (aN ar (aC 3) ak))
  (aG (aw (bI (bS (aY (iB hu64) (pX jN PySem.F.plainAttrs_list PySem.F.slot_list_count PySem.F.type_list_count vJ (aC 2) (aA bX aE)) aD zqW) (bQ (am (ao (al (cR hC hz hf hk) rfl fx.jcH aI (aA (aC 1) (aA (cJ rfl fx.jcB lW) aE)))))))) (aP (ae ak)) aX)
  (aG (aZ (i:=4) nd rfl zqE (aU hu1 (pX ty_str PySem.F.plainAttrs_str PySem.F.slot_str_split PySem.F.type_str_split vL (aC 3) (aA ak aE)) (pX jN PySem.F.plainAttrs_list PySem.F.slot_list_index PySem.F.type_list_index vK (aC 2) (aA bX aE))))
  (aG (aw (aY (pN hu65) (aC 4) (av (aA ak (aA ak aE))) zqW) (aP (ae (av (aA (aC 4) (aA (qt (fun h=>⟨⟨hC.hg,hC.hk,hC.hs,hC.hd⟩,G.kx.fld C hm _ (List.contains_iff_mem.mp h)⟩) hz hf (aC 1)) (aA (qt (fun h=>⟨⟨hC.hg,hC.hk,hC.hs,hC.hd⟩,G.kx.fld C hm _ (List.contains_iff_mem.mp h)⟩) hz hf (aC 1)) aE)))))) aX)
  (aG (aw (aY (pN hu65) (aC 4) (av (aA ak (aA ak aE))) zqW) (aP (ae (av (aA (aC 4) (aA (qt (fun h=>⟨⟨hC.hg,hC.hk,hC.hs,hC.hd⟩,G.kx.fld C hm _ (List.contains_iff_mem.mp h)⟩) hz hf (aC 1)) aE))))) aX)
  (aP (ae (lm (aY (gF hu64) (aC 4) ak zqW) (av (aA (aC 4) (aA (qt (fun h=>⟨⟨hC.hg,hC.hk,hC.hs,hC.hd⟩,G.kx.fld C hm _ (List.contains_iff_mem.mp h)⟩) hz hf (aC 1)) aE))) (aC 4))))))))))))))))))
 ·obtain ⟨hm,hfs,rfl⟩:=nA hC
  exact uZ C hm fs ea dd S hfs hdk
abbrev sJ:Stmt:=(top 85)
abbrev ua:List Str:=["_law_thing","_law_low","_law_high"]
def ub:MS:=bW (gR (eB bJ (aB (eV 0) (aB (eC (.ty "int")) (aH)))) (gR (eNot (eB bJ (aB (eV 0) (aB (eC (.ty "bool")) (aH))))) (gT (lv dLe) (lv dLe) (eV 1) (eV 0) (eV 2))))
def b0:MF:=bF 0 ub
theorem eX (G:Gx P w K mg base):FnE P w K mg base 1 (He.ga K "_law_is") ["_law_thing","_law_low","_law_high"] b0:=by
 obtain ⟨fd,F⟩:=G.jdH
 have fx:=G.fx
 refine ⟨fd,?_⟩
 refine bA (N:=ua) (st:=sJ) (k:=0) F zqH rfl nO fun cdv A outer s H E hcd hp hr W tk=>?_
 exact (aP (ae (dI (al cQ rfl fx.jcH aI (aA (aC 0) (aA (cJ rfl fx.jcG tZ) aE))) (dI (sz (al cQ rfl fx.jcH aI (aA (aC 0) (aA (cJ rfl fx.jcD qu) aE)))) (gS (nj pL pL (aC 1) (aC 0) (aC 2)))))))
abbrev le:Stmt:=(top 87)
abbrev N_law_is_leg:List Str:=["_law_thing","_law_ahead","_law_names","_law_days","_law_other_here","_law_part","_law_day"]
def i7:MS:=aV (sIf (cF (az (b7 (eB bJ (aB (eV 0) (aB (eC (.ty "tuple")) (aH)))))) (cF (tOf (aJ (lv dNe) (eB b3 (aB (eV 0) (aH))) (eC (.int 7)))) (az (b7 (aR 3 b0 (aB (aJ fIx (eV 0) (eC (.int 0))) (aB (eC (.int 1)) (aB (eC (.int 9999)) (aH))))))))) (bW (eC (.bool false))) (bp))
 (aV (sIf (cF (tOf (aJ fIn (aJ fIx (eV 0) (eC (.int 0))) (cE (fR (eV 1)) (gV 4) (b5) (aJ fIx (eV 4) (eC (.int 0))) [4]))) (tOf (aJ (lv dNe) (cE (fR (kM (eV 0) (cq (eC (.int 1))) (cq (eC (.int 3))))) (gV 5) (tOf (aJ eh (eV 5) (eV 2))) (eV 5) [5]) (cO (aH))))) (bW (eC (.bool false))) (bp))
 (aV (ap 3 (aJ fIx (eV 0) (eC (.int 5))))
 (aV (sIf (cF (az (b7 (eB bJ (aB (eV 3) (aB (eC (.ty "tuple")) (aH)))))) (cF (tOf (aJ (lv dEq) (eV 3) (cN (aH)))) (tOf (aJ (lv dNe) (cE (fR (eV 3)) (gV 6) (az (b7 (aR 3 b0 (aB (eV 6) (aB (eC (.int 0)) (aB (eC (.int 6)) (aH))))))) (eV 6) [6]) (cO (aH)))))) (bW (eC (.bool false))) (bp))
 (aV (sIf (cF (tOf (aJ (lv dEq) (aJ fIx (eV 0) (eC (.int 1))) (aJ fIx (eV 0) (eC (.int 2))))) (tOf (aJ (lv dNe) (eB n8 (aB (eV 3) (aH))) (iu (eV 3))))) (bW (eC (.bool false))) (bp))
 (bW (gR (aR 3 b0 (aB (aJ fIx (eV 0) (eC (.int 3))) (aB (eC (.int 0)) (aB (eC (.int 1439)) (aH))))) (gR (aR 3 b0 (aB (aJ fIx (eV 0) (eC (.int 4))) (aB (eC (.int 20)) (aB (eC (.int 900)) (aH))))) (aR 3 b0 (aB (aJ fIx (eV 0) (eC (.int 6))) (aB (eC (.int 1)) (aB (eC (.int 100000)) (aH))))))))))))
def cb:MF:=bF 4 i7
theorem lf (G:Gx P w K mg base):FnE P w K mg base 2 (He.ga K "_law_is_leg") ["_law_thing","_law_ahead","_law_names"] cb:=by
 obtain ⟨fd,F⟩:=G.jdI
 have fx:=G.fx
 refine ⟨fd,?_⟩
 refine bA (N:=N_law_is_leg) (st:=le) (k:=1) F zqH rfl nO fun cdv A outer s H E hcd hp hr W tk=>?_
 have nd:N_law_is_leg.Nodup:=zqD
 have hu1:=ru1 hr
 have hu64:=gH hr
 have hu65:=iR hr
 exact (aG (aw (bI (bS (am (ao (al cQ rfl fx.jcH aI (aA (aC 0) (aA (cJ rfl fx.jcO aq) aE))))) (bS (aY (iB hu64) (al cU rfl fx.jcI br (aA (aC 0) aE)) aD zqW) (bQ (am (ao (aL (ps:=["_law_thing","_law_low","_law_high"]) (m:=b0) (eX G) hr.m fx.ja5 tk (aA (aU hu1 (aC 0) aD) (aA aD (aA aD aE)))))))))) (aP (ae bX)) aX)
  (aG (aw (bI (bS (aY (pN hu65) (aU hu1 (aC 0) aD) (cH (own:=[("_law_other_here",4)]) rfl nd (cS (aC 1)) (blkOk_by zqR) (fun _ _ _ _ _=>(bL (i:=4) nd rfl zqE zqC)) (fun _ _ _ _ _=>cG) (fun _ _ _ _ _=>(aU hu1 (aC 4) aD))) zqW) (bQ (aY (iB hu64) (cH (own:=[("_law_part",5)]) rfl nd (cS (gO (aC 0) (bt aD) (bt aD))) (blkOk_by zqR) (fun _ _ _ _ _=>(bL (i:=5) nd rfl zqE zqC)) (fun _ _ _ _ _=>(j6 (aY (ft hu65) (aC 5) (aC 2) zqW))) (fun _ _ _ _ _=>(aC 5))) (bD aE) zqW)))) (aP (ae bX)) aX)
  (aG (aZ (i:=3) nd rfl zqE (aU hu1 (aC 0) aD))
  (aG (aw (bI (bS (am (ao (al cQ rfl fx.jcH aI (aA (aC 3) (aA (cJ rfl fx.jcO aq) aE))))) (bS (aY (gF hu64) (aC 3) (av aE) zqW) (bQ (aY (iB hu64) (cH (own:=[("_law_day",6)]) rfl nd (cS (aC 3)) (blkOk_by zqR) (fun _ _ _ _ _=>(bL (i:=6) nd rfl zqE zqC)) (fun _ _ _ _ _=>(j6 (am (ao (aL (ps:=["_law_thing","_law_low","_law_high"]) (m:=b0) (eX G) hr.m fx.ja5 takes0 (aA (aC 6) (aA aD (aA aD aE)))))))) (fun _ _ _ _ _=>(aC 6))) (bD aE) zqW))))) (aP (ae bX)) aX)
  (aG (aw (bI (bS (aY (gF hu64) (aU hu1 (aC 0) aD) (aU hu1 (aC 0) aD) zqW) (bQ (aY (iB hu64) (jl c_list rfl fx.jcJ vN (aA (aC 3) aE)) (qJ rfl rfl fx.jcM rfl fx.jcL (aC 3)) zqW)))) (aP (ae bX)) aX)
  (aP (ae (dI (aL (ps:=["_law_thing","_law_low","_law_high"]) (m:=b0) (eX G) hr.m fx.ja5 tk (aA (aU hu1 (aC 0) aD) (aA aD (aA aD aE)))) (dI (aL (ps:=["_law_thing","_law_low","_law_high"]) (m:=b0) (eX G) hr.m fx.ja5 tk (aA (aU hu1 (aC 0) aD) (aA aD (aA aD aE)))) (gS (aL (ps:=["_law_thing","_law_low","_law_high"]) (m:=b0) (eX G) hr.m fx.ja5 tk (aA (aU hu1 (aC 0) aD) (aA aD (aA aD aE))))))))))))))
abbrev j1:Stmt:=(top 86)
abbrev N_law_is_place:List Str:=["_law_thing","_law_ahead","_law_sign","_law_other_here"]
def gh:MS:=aV (sIf (cF (az (b7 (eB bJ (aB (eV 0) (aB (eC (.ty "tuple")) (aH)))))) (cF (tOf (aJ (lv dNe) (eB b3 (aB (eV 0) (aH))) (eC (.int 2)))) (cF (az (b7 (eB bJ (aB (aJ fIx (eV 0) (eC (.int 0))) (aB (eC (.ty "str")) (aH)))))) (tOf (aJ (lv dNe) (eB b3 (aB (aJ fIx (eV 0) (eC (.int 0))) (aH))) (eC (.int 3))))))) (bW (eC (.bool false))) (bp))
 (aV (sIf (tOf (aJ (lv dNe) (cE (fR (aJ fIx (eV 0) (eC (.int 0)))) (gV 2) (tOf (aJ eh (eV 2) (eC (.str "abcdefghijklmnopqrstuvwxyz")))) (eV 2) [2]) (cO (aH)))) (bW (eC (.bool false))) (bp))
 (bW (gR (aJ eh (aJ fIx (eV 0) (eC (.int 0))) (cE (fR (eV 1)) (gV 3) (b5) (aJ fIx (eV 3) (eC (.int 0))) [3])) (aR 3 b0 (aB (aJ fIx (eV 0) (eC (.int 1))) (aB (eC (.int 10)) (aB (eC (.int 300)) (aH))))))))
def cX:MF:=bF 2 gh
theorem j2 (G:Gx P w K mg base):FnE P w K mg base 2 (He.ga K "_law_is_place") ["_law_thing","_law_ahead"] cX:=by
 obtain ⟨fd,F⟩:=G.jdJ
 have fx:=G.fx
 refine ⟨fd,?_⟩
 refine bA (N:=N_law_is_place) (st:=j1) (k:=1) F zqH rfl ju fun cdv A outer s H E hcd hp hr W tk=>?_
 have nd:N_law_is_place.Nodup:=zqD
 have hu1:=ru1 hr
 have hu64:=gH hr
 have hu65:=iR hr
 exact (aG (aw (bI (bS (am (ao (al cQ rfl fx.jcH aI (aA (aC 0) (aA (cJ rfl fx.jcO aq) aE))))) (bS (aY (iB hu64) (al cU rfl fx.jcI br (aA (aC 0) aE)) aD zqW) (bS (am (ao (al cQ rfl fx.jcH aI (aA (aU hu1 (aC 0) aD) (aA (cJ rfl fx.jcN kl) aE))))) (bQ (aY (iB hu64) (al cU rfl fx.jcI br (aA (aU hu1 (aC 0) aD) aE)) aD zqW)))))) (aP (ae bX)) aX)
  (aG (aw (aY (iB hu64) (cH (own:=[("_law_sign",2)]) rfl nd (cS (aU hu1 (aC 0) aD)) (blkOk_by zqR) (fun _ _ _ _ _=>(bL (i:=2) nd rfl zqE zqC)) (fun _ _ _ _ _=>(j6 (aY (ft hu65) (aC 2) ak zqW))) (fun _ _ _ _ _=>(aC 2))) (bD aE) zqW) (aP (ae bX)) aX)
  (aP (ae (dI (iL (ft hu65) (aU hu1 (aC 0) aD) (cH (own:=[("_law_other_here",3)]) rfl nd (cS (aC 1)) (blkOk_by zqR) (fun _ _ _ _ _=>(bL (i:=3) nd rfl zqE zqC)) (fun _ _ _ _ _=>cG) (fun _ _ _ _ _=>(aU hu1 (aC 3) aD))) zqW) (gS (aL (ps:=["_law_thing","_law_low","_law_high"]) (m:=b0) (eX G) hr.m fx.ja5 tk (aA (aU hu1 (aC 0) aD) (aA aD (aA aD aE))))))))))
abbrev qO:Stmt:=(top 88)
abbrev N_law_bad:List Str:=["_law_net_here","_law_k","_law_names","_law_place"]
def mE:MS:=aV (sIf (cF (az (b7 (eB bJ (aB (eV 0) (aB (eC (.ty "tuple")) (aH)))))) (tOf (aJ (lv dNe) (eB b3 (aB (eV 0) (aH))) (eC (.int 2))))) (bW (cN (aB (aJ (lv nS) (eC (.int 0)) (eC (.int 1))) (aB (eC (.int 0)) (aH))))) (bp))
 (aV (sIf (cF (az (b7 (eB bJ (aB (aJ fIx (eV 0) (eC (.int 0))) (aB (eC (.ty "tuple")) (aH)))))) (tOf (aJ (lv dEq) (aJ fIx (eV 0) (eC (.int 0))) (cN (aH))))) (bW (cN (aB (eC (.int 0)) (aB (eC (.int 0)) (aH))))) (bp))
 (aV (jK (dz (aB (eB b3 (aB (aJ fIx (eV 0) (eC (.int 0))) (aH))) (aH))) (gV 1) (sIf (cF (tOf (aJ (lv dGt) (eV 1) (eC (.int 11)))) (az (b7 (aR 2 cX (aB (aJ fIx (aJ fIx (eV 0) (eC (.int 0))) (eV 1)) (aB (kM (aJ fIx (eV 0) (eC (.int 0))) (pNo) (cq (eV 1))) (aH))))))) (bW (cN (aB (eC (.int 0)) (aB (eV 1) (aH))))) (bp)))
 (aV (sIf (az (b7 (eB bJ (aB (aJ fIx (eV 0) (eC (.int 1))) (aB (eC (.ty "tuple")) (aH)))))) (bW (cN (aB (eC (.int 1)) (aB (eC (.int 0)) (aH))))) (bp))
 (aV (ap 2 (cE (fR (aJ fIx (eV 0) (eC (.int 0)))) (gV 3) (b5) (aJ fIx (eV 3) (eC (.int 0))) [3]))
 (aV (jK (dz (aB (eB b3 (aB (aJ fIx (eV 0) (eC (.int 1))) (aH))) (aH))) (gV 1) (sIf (cF (tOf (aJ (lv dGt) (eV 1) (eC (.int 59)))) (az (b7 (aR 3 cb (aB (aJ fIx (aJ fIx (eV 0) (eC (.int 1))) (eV 1)) (aB (kM (aJ fIx (eV 0) (eC (.int 1))) (pNo) (cq (eV 1))) (aB (eV 2) (aH)))))))) (bW (cN (aB (eC (.int 1)) (aB (eV 1) (aH))))) (bp)))
 (bW (eC .none)))))))
def fk:MF:=bF 3 mE
theorem qP (G:Gx P w K mg base):FnE P w K mg base 3 (He.ga K "_law_bad") ["_law_net_here"] fk:=by
 obtain ⟨fd,F⟩:=G.jdK
 have fx:=G.fx
 refine ⟨fd,?_⟩
 refine bA (N:=N_law_bad) (st:=qO) (k:=2) F zqH rfl lT fun cdv A outer s H E hcd hp hr W tk=>?_
 have nd:N_law_bad.Nodup:=zqD
 have hu1:=ru1 hr
 have hu64:=gH hr
 exact (aG (aw (bI (bS (am (ao (al cQ rfl fx.jcH aI (aA (aC 0) (aA (cJ rfl fx.jcO aq) aE))))) (bQ (aY (iB hu64) (al cU rfl fx.jcI br (aA (aC 0) aE)) aD zqW)))) (aP (ae (av (aA (aN kI aD aD) (aA aD aE))))) aX)
  (aG (aw (bI (bS (am (ao (al cQ rfl fx.jcH aI (aA (aU hu1 (aC 0) aD) (aA (cJ rfl fx.jcO aq) aE))))) (bQ (aY (gF hu64) (aU hu1 (aC 0) aD) (av aE) zqW)))) (aP (ae (av (aA aD (aA aD aE))))) aX)
  (aG (fS hp rfl (eP rfl fx.jcK (aA (al cU rfl fx.jcI br (aA (aU hu1 (aC 0) aD) aE)) aE)) (bE (i:=1) nd rfl zqE) (aP (aw (bI (bS (aY o_gt (aC 1) aD zqW) (bQ (am (ao (aL (ps:=["_law_thing","_law_ahead"]) (m:=cX) (j2 G) hr.m fx.ja7 tk (aA (aU hu1 (aU hu1 (aC 0) aD) (aC 1)) (aA (gO (aU hu1 (aC 0) aD) eK (bt (aC 1))) aE)))))))) (aP (ae (av (aA aD (aA (aC 1) aE))))) aX)))
  (aG (aw (am (ao (al cQ rfl fx.jcH aI (aA (aU hu1 (aC 0) aD) (aA (cJ rfl fx.jcO aq) aE))))) (aP (ae (av (aA aD (aA aD aE))))) aX)
  (aG (kW (own:=[("_law_place",3)]) (i:=2) rfl nd rfl rfl rfl (cS (aU hu1 (aC 0) aD)) (blkOk_by zqR) (fun _ _ _ _ _=>(bL (i:=3) nd rfl zqE zqC)) (fun _ _ _ _ _=>cG) (fun _ _ _ _ _=>(aU hu1 (aC 3) aD)))
  (aG (fS hp rfl (eP rfl fx.jcK (aA (al cU rfl fx.jcI br (aA (aU hu1 (aC 0) aD) aE)) aE)) (bE (i:=1) nd rfl zqE) (aP (aw (bI (bS (aY o_gt (aC 1) aD zqW) (bQ (am (ao (aL (ps:=["_law_thing","_law_ahead","_law_names"]) (m:=cb) (lf G) hr.m fx.ja6 tk (aA (aU hu1 (aU hu1 (aC 0) aD) (aC 1)) (aA (gO (aU hu1 (aC 0) aD) eK (bt (aC 1))) (aA (aC 2) aE))))))))) (aP (ae (av (aA aD (aA (aC 1) aE))))) aX)))
  (aP (ae dH))))))))
abbrev nB:Stmt:=(top 78)
abbrev N_law_drawn:List Str:=["_law_state","_law_many","_law_found","_law_cell"]
def dp:MS:=aV (sIf (tOf (aJ (lv dGt) (aJ fIx (eV 0) (eC (.int 3))) (eC (.int 0)))) (aV (ap 2 (aJ (lv jv) (aJ fIx (eV 0) (eC (.int 3))) (eV 1)))
 (aV (lU (aJ (lv dDiv) (aJ fIx (eV 0) (eC (.int 3))) (eV 1)) (ki (eV 0) (eC (.int 3))))
 (bW (eV 2)))) (bp))
 (aV (lU (aJ (lv0 bH) (aJ fIx (eV 0) (eC (.int 1))) (eC (.int 1))) (ki (eV 0) (eC (.int 1))))
 (aV (sIf (tOf (aJ (lv dLe) (aJ fIx (eV 0) (eC (.int 1))) (eB b3 (aB (aJ fIx (eV 0) (eC (.int 0))) (aH))))) (aV (ap 3 (aJ fIx (aJ fIx (eV 0) (eC (.int 0))) (aJ (lv nS) (aJ fIx (eV 0) (eC (.int 1))) (eC (.int 1)))))
 (aV (lU (eIf (tOf (aJ (lv dGe) (eV 3) (aJ (lv dPow) (eC (.int 10)) (eC (.int 18))))) (aJ (lv dDiv) (eV 3) (eV 1)) (eC (.int 0))) (ki (eV 0) (eC (.int 3))))
 (bW (aJ (lv jv) (eV 3) (eV 1))))) (bp))
 (aV (lU (aJ (lv jv) (aJ (lv0 bH) (aJ (lv eJ) (aJ fIx (eV 0) (eC (.int 2))) (eC (.int 48271))) (eC (.int 11))) (eC (.int 2147483647))) (ki (eV 0) (eC (.int 2))))
 (bW (aJ (lv jv) (aJ (lv dDiv) (aJ fIx (eV 0) (eC (.int 2))) (eC (.int 7))) (eV 1))))))
def aF:MF:=bF 2 dp
theorem aK (G:Gx P w K mg base):FnE P w K mg base 1 (He.ga K "_law_drawn") ["_law_state","_law_many"] aF:=by
 obtain ⟨fd,F⟩:=G.jdL
 have fx:=G.fx
 refine ⟨fd,?_⟩
 refine bA (N:=N_law_drawn) (st:=nB) (k:=0) F zqH rfl ju fun cdv A outer s H E hcd hp hr W tk=>?_
 have nd:N_law_drawn.Nodup:=zqD
 have hu1:=ru1 hr
 exact (aG (aw (aY o_gt (aU hu1 (aC 0) aD) aD zqW) (aG (aZ (i:=2) nd rfl zqE (aN gK (aU hu1 (aC 0) aD) (aC 1)))
  (aG (iP (aN qg (aU hu1 (aC 0) aD) (aC 1)) (mZ hu1 (aC 0) aD))
  (aP (ae (aC 2))))) aX)
  (aG (iP (aN ar (aU hu1 (aC 0) aD) aD) (mZ hu1 (aC 0) aD))
  (aG (aw (aY pL (aU hu1 (aC 0) aD) (al cU rfl fx.jcI br (aA (aU hu1 (aC 0) aD) aE)) zqW) (aG (aZ (i:=3) nd rfl zqE (aU hu1 (aU hu1 (aC 0) aD) (aN kI (aU hu1 (aC 0) aD) aD)))
  (aG (iP (lm (aY o_ge (aC 3) (aN o_pow aD aD) zqW) (aN qg (aC 3) (aC 1)) aD) (mZ hu1 (aC 0) aD))
  (aP (ae (aN gK (aC 3) (aC 1)))))) aX)
  (aG (iP (aN gK (aN ar (aN c9 (aU hu1 (aC 0) aD) aD) aD) aD) (mZ hu1 (aC 0) aD))
  (aP (ae (aN gK (aN qg (aU hu1 (aC 0) aD) aD) (aC 1))))))))
abbrev i8:Stmt:=(top 89)
abbrev N_law_other:List Str:=["_law_state","_law_thing","_law_some","_law_k","_law_one"]
def cY:Nat→MF
 | 0=>bF 3 kO
 | n+1=>bF 3 (aV (ap 2 (cO (aB (aJ (lv nS) (eC (.int 0)) (eC (.int 1))) (aB (eC (.int 0)) (aB (eC (.int 1)) (aB (eC (.int 6)) (aB (eC (.int 7)) (aB (eC (.int 9)) (aB (eC (.int 10)) (aB (eC (.int 19)) (aB (eC (.int 20)) (aB (eC (.int 300)) (aB (eC (.int 301)) (aB (eC (.int 900)) (aB (eC (.int 901)) (aB (eC (.int 1439)) (aB (eC (.int 1440)) (aB (eC (.int 9999)) (aB (eC (.int 10000)) (aB (eC (.int 100000)) (aB (eC (.int 100001)) (aB (eC (.bool true)) (aB (eC .none) (aH))))))))))))))))))))))))
 (aV (ap 2 (aJ (lv0 bU) (eV 2) (cO (aB (eC (.str "aba")) (aB (eC (.str "Aba")) (aB (eC (.str "ab")) (aB (eC (.str "abcd")) (aB (eC (.str "")) (aB (cV (aH)) (aB (cV (aB (eC (.int 0)) (aB (eC (.int 0)) (aH)))) (aB (cV (aB (eC (.int 6)) (aB (eC (.int 1)) (aH)))) (aB (cV (aB (eC (.int 0)) (aB (eC (.int 6)) (aH)))) (aB (eC (.int 100)) (aB (eC (.int 103)) (aB (cO (aB (eC (.int 0)) (aH))) (aH))))))))))))))))
 (aV (sIf (cF (az (b7 (eB bJ (aB (eV 1) (aB (eC (.ty "tuple")) (aH)))))) (tOf (aJ (lv dEq) (aR 2 aF (aB (eV 0) (aB (eC (.int 7)) (aH)))) (eC (.int 0))))) (bW (aJ fIx (eV 2) (aR 2 aF (aB (eV 0) (aB (eB b3 (aB (eV 2) (aH))) (aH)))))) (bp))
 (aV (ap 3 (aR 2 aF (aB (eV 0) (aB (aJ (lv0 bU) (eB b3 (aB (eV 1) (aH))) (eC (.int 1))) (aH)))))
 (aV (sIf (tOf (aJ (lv dEq) (eV 3) (eB b3 (aB (eV 1) (aH))))) (aV (ap 4 (eIf (tOf (aJ (lv dNe) (eV 1) (cV (aH)))) (aJ fIx (eV 1) (aR 2 aF (aB (eV 0) (aB (eB b3 (aB (eV 1) (aH))) (aH))))) (eC .none)))
 (bW (aJ fIx (cO (aB (gD (eV 1) (pNo) (cq (aJ (lv nS) (eC (.int 0)) (eC (.int 1))))) (aB (aJ (lv0 bU) (eV 1) (cV (aB (eV 4) (aH)))) (aH)))) (aR 2 aF (aB (eV 0) (aB (eC (.int 2)) (aH))))))) (bp))
 (bW (aJ (lv0 bU) (aJ (lv0 bU) (gD (eV 1) (pNo) (cq (eV 3))) (cV (aB (aR 2 (cY n) (aB (eV 0) (aB (aJ fIx (eV 1) (eV 3)) (aH)))) (aH)))) (gD (eV 1) (cq (aJ (lv0 bU) (eV 3) (eC (.int 1)))) (pNo)))))))))
theorem i9 (G:Gx P w K mg base):∀n:Nat,FnE P w K mg base (n+2) (He.ga K "_law_other") ["_law_state","_law_thing"] (cY n)
 | 0=>by
  obtain ⟨fd,F⟩:=G.jdM
  have h:FnE P w K mg base 2 (He.ga K "_law_other") ["_law_state","_law_thing"] (bF 3 kO):=by
   refine ⟨fd,?_⟩
   refine bA (N:=N_law_other) (st:=i8) (k:=1) F zqH rfl ju fun cdv A outer s H E hcd hp hr W tk=>?_
   exact rj
  rw[Nat.zero_add]
  exact h
 | n+1=>by
  have ih:=i9 G n
  obtain ⟨fd,F⟩:=G.jdM
  have fx:=G.fx
  have h:FnE P w K mg base (n+2+1) (He.ga K "_law_other") ["_law_state","_law_thing"] (cY (n+1)):=by
   refine ⟨fd,?_⟩
   refine bA (N:=N_law_other) (st:=i8) (k:=n+2) F zqH rfl ju fun cdv A outer s H E hcd hp hr W tk=>?_
   have nd:N_law_other.Nodup:=zqD
   have hu1:=ru1 hr
   have hu64:=gH hr
   have hu65:=iR hr
   exact (aG (aZ (i:=2) nd rfl zqE (bD (aA (aN kI aD aD) (aA aD (aA aD (aA aD (aA aD (aA aD (aA aD (aA aD (aA aD (aA aD (aA aD (aA aD (aA aD (aA aD (aA aD (aA aD (aA aD (aA aD (aA aD (aA bX (aA dH aE)))))))))))))))))))))))
  (aG (aZ (i:=2) nd rfl zqE (aN cI (aC 2) (bD (aA ak (aA ak (aA ak (aA ak (aA ak (aA (bT aE) (aA (bT (aA aD (aA aD aE))) (aA (bT (aA aD (aA aD aE))) (aA (bT (aA aD (aA aD aE))) (aA aD (aA aD (aA (bD (aA aD aE)) aE)))))))))))))))
  (aG (aw (bI (bS (am (ao (al cQ rfl fx.jcH aI (aA (aC 1) (aA (cJ rfl fx.jcO aq) aE))))) (bQ (aY (gF hu64) (aL (ps:=["_law_state","_law_many"]) (m:=aF) (aK G) (hr.mono zqO) fx.ja3 tk (aA (aC 0) (aA aD aE))) aD zqW)))) (aP (ae (aU hu1 (aC 2) (aL (ps:=["_law_state","_law_many"]) (m:=aF) (aK G) (hr.mono zqO) fx.ja3 tk (aA (aC 0) (aA (al cU rfl fx.jcI br (aA (aC 2) aE)) aE)))))) aX)
  (aG (aZ (i:=3) nd rfl zqE (aL (ps:=["_law_state","_law_many"]) (m:=aF) (aK G) (hr.mono zqO) fx.ja3 tk (aA (aC 0) (aA (aN cI (al cU rfl fx.jcI br (aA (aC 1) aE)) aD) aE))))
  (aG (aw (aY (gF hu64) (aC 3) (al cU rfl fx.jcI br (aA (aC 1) aE)) zqW) (aG (aZ (i:=4) nd rfl zqE (lm (aY (iB hu64) (aC 1) (bT aE) zqW) (aU hu1 (aC 1) (aL (ps:=["_law_state","_law_many"]) (m:=aF) (aK G) (hr.mono zqO) fx.ja3 tk (aA (aC 0) (aA (al cU rfl fx.jcI br (aA (aC 1) aE)) aE)))) dH))
  (aP (ae (aU hu1 (bD (aA (eR (aC 1) eK (bt (aN kI aD aD))) (aA (aN cI (aC 1) (bT (aA (aC 4) aE))) aE))) (aL (ps:=["_law_state","_law_many"]) (m:=aF) (aK G) (hr.mono zqO) fx.ja3 tk (aA (aC 0) (aA aD aE))))))) aX)
  (aP (ae (aN cI (aN cI (eR (aC 1) eK (bt (aC 3))) (bT (aA (aL (ps:=["_law_state","_law_thing"]) (m:=(cY n)) ih hr fx.jbA tk (aA (aC 0) (aA (aU hu1 (aC 1) (aC 3)) aE))) aE))) (eR (aC 1) (bt (aN cI (aC 3) aD)) eK)))))))))
  rw[show n+1+2=n+2+1 by omega]
  exact h
abbrev lG:Stmt:=(top 80)
abbrev N_law_shuttle:List Str:=["_law_state","_law_names","_law_legs","_law_long","_law_gap","_law_days","_law_k","_law_one","_law_other_here","_law_name"]
def iI:MS:=aV (pO 1 2 (aB (kM (cO (aB (eC (.str "aba")) (aB (eC (.str "bcd")) (aB (eC (.str "cad")) (aH))))) (pNo) (cq (aJ (lv0 bH) (eC (.int 2)) (aR 2 aF (aB (eV 0) (aB (eC (.int 2)) (aH))))))) (aB (lp (aH)) (aH))))
 (aV (pO 3 4 (aB (aJ (lv0 bH) (eC (.int 20)) (aJ (lv eJ) (eC (.int 10)) (aR 2 aF (aB (eV 0) (aB (eC (.int 5)) (aH)))))) (aB (aJ (lv0 bH) (eC (.int 60)) (aJ (lv eJ) (eC (.int 10)) (aR 2 aF (aB (eV 0) (aB (eC (.int 10)) (aH)))))) (aH))))
 (aV (ap 5 (aJ fIx (cO (aB (cN (aB (eC (.int 0)) (aB (eC (.int 1)) (aB (eC (.int 2)) (aB (eC (.int 3)) (aB (eC (.int 4)) (aB (eC (.int 5)) (aB (eC (.int 6)) (aH))))))))) (aB (cN (aB (eC (.int 1)) (aB (eC (.int 2)) (aB (eC (.int 5)) (aH))))) (aB (cN (aB (aR 2 aF (aB (eV 0) (aB (eC (.int 7)) (aH)))) (aH))) (aH))))) (aR 2 aF (aB (eV 0) (aB (eC (.int 3)) (aH))))))
 (aV (jK (dz (aB (aJ (lv0 bH) (eC (.int 3)) (aR 2 aF (aB (eV 0) (aB (eC (.int 5)) (aH))))) (aH))) (gV 6) (aV (pO 7 8 (aB (aJ fIx (eV 1) (aJ (lv jv) (eV 6) (eB b3 (aB (eV 1) (aH))))) (aB (aJ fIx (eV 1) (aJ (lv jv) (aJ (lv0 bH) (eV 6) (eC (.int 1))) (eB b3 (aB (eV 1) (aH))))) (aH))))
 (aV (eq (eM eD df (eV 2) (aB (cN (aB (aJ (lv0 bH) (eC (.int 10)) (aJ (lv eJ) (eC (.int 3)) (eV 6))) (aB (eV 7) (aB (eV 8) (aB (aJ (lv0 bH) (eC (.int 300)) (aJ (lv eJ) (eV 4) (eV 6))) (aB (eV 3) (aB (eV 5) (aB (aJ (lv0 bH) (eC (.int 100)) (eV 6)) (aH))))))))) (aH))))
 (sIf (tOf (aJ (lv dGt) (aR 2 aF (aB (eV 0) (aB (eC (.int 3)) (aH)))) (eC (.int 0)))) (eq (eM eD df (eV 2) (aB (cN (aB (aJ (lv0 bH) (eC (.int 11)) (aJ (lv eJ) (eC (.int 3)) (eV 6))) (aB (eV 8) (aB (eV 7) (aB (aJ (lv0 bH) (eC (.int 300)) (aJ (lv eJ) (eV 4) (eV 6))) (aB (aJ (lv0 bH) (eV 3) (aJ (lv eJ) (eC (.int 10)) (aR 2 aF (aB (eV 0) (aB (eC (.int 2)) (aH)))))) (aB (eV 5) (aB (eC (.int 77)) (aH))))))))) (aH)))) (bp)))))
 (bW (cN (aB (eB jx (aB (cE (fR (eV 1)) (gV 9) (b5) (cN (aB (eV 9) (aB (aJ (lv0 bH) (eC (.int 10)) (aJ (lv eJ) (eC (.int 20)) (aR 2 aF (aB (eV 0) (aB (eC (.int 3)) (aH)))))) (aH)))) [9]) (aH))) (aB (eB jx (aB (eV 2) (aH))) (aH))))))))
def cy:MF:=bF 9 iI
theorem lH (G:Gx P w K mg base):FnE P w K mg base 2 (He.ga K "_law_shuttle") ["_law_state"] cy:=by
 obtain ⟨fd,F⟩:=G.jdN
 have fx:=G.fx
 refine ⟨fd,?_⟩
 refine bA (N:=N_law_shuttle) (st:=lG) (k:=1) F zqH rfl lT fun cdv A outer s H E hcd hp hr W tk=>?_
 have nd:N_law_shuttle.Nodup:=zqD
 have hu1:=ru1 hr
 exact (aG (mT (i:=1) (j:=2) rfl nd rfl rfl zqC rfl rfl (aA (gO (bD (aA ak (aA ak (aA ak aE)))) eK (bt (aN ar aD (aL (ps:=["_law_state","_law_many"]) (m:=aF) (aK G) hr.m fx.ja3 tk (aA (aC 0) (aA aD aE)))))) (aA (mR aE) aE)))
  (aG (mT (i:=3) (j:=4) rfl nd rfl rfl zqC rfl rfl (aA (aN ar aD (aN c9 aD (aL (ps:=["_law_state","_law_many"]) (m:=aF) (aK G) hr.m fx.ja3 tk (aA (aC 0) (aA aD aE))))) (aA (aN ar aD (aN c9 aD (aL (ps:=["_law_state","_law_many"]) (m:=aF) (aK G) hr.m fx.ja3 tk (aA (aC 0) (aA aD aE))))) aE)))
  (aG (aZ (i:=5) nd rfl zqE (aU hu1 (bD (aA (av (aA aD (aA aD (aA aD (aA aD (aA aD (aA aD (aA aD aE)))))))) (aA (av (aA aD (aA aD (aA aD aE)))) (aA (av (aA (aL (ps:=["_law_state","_law_many"]) (m:=aF) (aK G) hr.m fx.ja3 tk (aA (aC 0) (aA aD aE))) aE)) aE)))) (aL (ps:=["_law_state","_law_many"]) (m:=aF) (aK G) hr.m fx.ja3 tk (aA (aC 0) (aA aD aE)))))
  (aG (fS hp rfl (eP rfl fx.jcK (aA (aN ar aD (aL (ps:=["_law_state","_law_many"]) (m:=aF) (aK G) hr.m fx.ja3 tk (aA (aC 0) (aA aD aE)))) aE)) (bE (i:=6) nd rfl zqE) (aG (mT (i:=7) (j:=8) rfl nd rfl rfl zqC rfl rfl (aA (aU hu1 (aC 1) (aN gK (aC 6) (al cU rfl fx.jcI br (aA (aC 1) aE)))) (aA (aU hu1 (aC 1) (aN gK (aN ar (aC 6) aD) (al cU rfl fx.jcI br (aA (aC 1) aE)))) aE)))
  (aG (c7 (pX jN PySem.F.plainAttrs_list PySem.F.slot_list_append PySem.F.type_list_append ik (aC 2) (aA (av (aA (aN ar aD (aN c9 aD (aC 6))) (aA (aC 7) (aA (aC 8) (aA (aN ar aD (aN c9 (aC 4) (aC 6))) (aA (aC 3) (aA (aC 5) (aA (aN ar aD (aC 6)) aE)))))))) aE)))
  (aP (aw (aY o_gt (aL (ps:=["_law_state","_law_many"]) (m:=aF) (aK G) hr.m fx.ja3 tk (aA (aC 0) (aA aD aE))) aD zqW) (aP (c7 (pX jN PySem.F.plainAttrs_list PySem.F.slot_list_append PySem.F.type_list_append ik (aC 2) (aA (av (aA (aN ar aD (aN c9 aD (aC 6))) (aA (aC 8) (aA (aC 7) (aA (aN ar aD (aN c9 (aC 4) (aC 6))) (aA (aN ar (aC 3) (aN c9 aD (aL (ps:=["_law_state","_law_many"]) (m:=aF) (aK G) hr.m fx.ja3 tk (aA (aC 0) (aA aD aE))))) (aA (aC 5) (aA aD aE)))))))) aE)))) aX)))))
  (aP (ae (av (aA (jl kg rfl fx.jcO aq (aA (cH (own:=[("_law_name",9)]) rfl nd (cS (aC 1)) (blkOk_by zqR) (fun _ _ _ _ _=>(bL (i:=9) nd rfl zqE zqC)) (fun _ _ _ _ _=>cG) (fun _ _ _ _ _=>(av (aA (aC 9) (aA (aN ar aD (aN c9 aD (aL (ps:=["_law_state","_law_many"]) (m:=aF) (aK G) hr.m fx.ja3 takes0 (aA (aC 0) (aA aD aE))))) aE))))) aE)) (aA (jl kg rfl fx.jcO aq (aA (aC 2) aE)) aE)))))))))
abbrev qQ:Stmt:=(top 81)
abbrev N_law_net:List Str:=["_law_state","_law_names","_law_places","_law_legs","_law_k","_law_start_here","_law_goal","_law_out","_law_long","_law_days","_law_fare","_law_name","_law_day"]
def mF:MS:=aV (sIf (tOf (aJ (lv dEq) (aR 2 aF (aB (eV 0) (aB (eC (.int 4)) (aH)))) (eC (.int 0)))) (bW (aR 1 cy (aB (eV 0) (aH)))) (bp))
 (aV (ap 1 (kM (cO (aB (eC (.str "aba")) (aB (eC (.str "bcd")) (aB (eC (.str "cad")) (aB (eC (.str "dub")) (aB (eC (.str "eli")) (aB (eC (.str "fra")) (aH)))))))) (pNo) (cq (aJ (lv0 bH) (eC (.int 2)) (aR 2 aF (aB (eV 0) (aB (eC (.int 4)) (aH))))))))
 (aV (ap 2 (eB jx (aB (cE (fR (eV 1)) (gV 11) (b5) (cN (aB (eV 11) (aB (aJ fIx (cO (aB (eC (.int 30)) (aB (eC (.int 10)) (aB (eC (.int 60)) (aB (aJ (lv0 bH) (eC (.int 10)) (aR 2 aF (aB (eV 0) (aB (eC (.int 291)) (aH))))) (aH)))))) (aR 2 aF (aB (eV 0) (aB (eC (.int 4)) (aH))))) (aH)))) [11]) (aH))))
 (aV (ap 3 (lp (aH)))
 (aV (jK (dz (aB (aJ (lv0 bH) (eC (.int 2)) (aR 2 aF (aB (eV 0) (aB (aJ fIx (cO (aB (eC (.int 6)) (aB (eC (.int 13)) (aH)))) (aR 2 aF (aB (eV 0) (aB (eC (.int 2)) (aH))))) (aH))))) (aH))) (gV 4) (aV (ap 5 (aR 2 aF (aB (eV 0) (aB (eB b3 (aB (eV 1) (aH))) (aH)))))
 (aV (ap 6 (aJ (lv jv) (aJ (lv0 bH) (aJ (lv0 bH) (eV 5) (eC (.int 1))) (aR 2 aF (aB (eV 0) (aB (aJ (lv nS) (eB b3 (aB (eV 1) (aH))) (eC (.int 1))) (aH))))) (eB b3 (aB (eV 1) (aH)))))
 (aV (ap 7 (cO (aB (aJ (lv eJ) (eC (.int 60)) (aR 2 aF (aB (eV 0) (aB (eC (.int 24)) (aH))))) (aB (aJ (lv0 bH) (eC (.int 300)) (aJ (lv eJ) (eC (.int 10)) (aR 2 aF (aB (eV 0) (aB (eC (.int 60)) (aH)))))) (aB (aR 2 aF (aB (eV 0) (aB (eC (.int 1440)) (aH)))) (aH))))))
 (aV (ap 7 (aJ fIx (eV 7) (aR 2 aF (aB (eV 0) (aB (eC (.int 3)) (aH))))))
 (aV (ap 8 (aJ fIx (cO (aB (eC (.int 60)) (aB (aJ (lv0 bH) (eC (.int 20)) (aJ (lv eJ) (eC (.int 10)) (aR 2 aF (aB (eV 0) (aB (eC (.int 30)) (aH)))))) (aB (aJ (lv0 bH) (eC (.int 20)) (aR 2 aF (aB (eV 0) (aB (eC (.int 881)) (aH))))) (aH))))) (aJ (lv dDiv) (aR 2 aF (aB (eV 0) (aB (eC (.int 9)) (aH)))) (eC (.int 4)))))
 (aV (ap 9 (eB jx (aB (cE (dz (aB (eC (.int 7)) (aH))) (gV 12) (tOf (aJ (lv dGt) (aR 2 aF (aB (eV 0) (aB (eC (.int 3)) (aH)))) (eC (.int 0)))) (eV 12) [12]) (aH))))
 (aV (ap 9 (eIf (tOf (aJ (lv dNe) (eV 9) (cN (aH)))) (eV 9) (cN (aB (aR 2 aF (aB (eV 0) (aB (eC (.int 7)) (aH)))) (aH)))))
 (aV (ap 10 (aJ fIx (cO (aB (eC (.int 100)) (aB (aJ (lv0 bH) (eC (.int 1)) (aR 2 aF (aB (eV 0) (aB (eC (.int 1000)) (aH))))) (aB (aJ (lv0 bH) (eC (.int 1)) (aR 2 aF (aB (eV 0) (aB (eC (.int 100000)) (aH))))) (aH))))) (aR 2 aF (aB (eV 0) (aB (eC (.int 3)) (aH))))))
 (aV (eq (eM eD df (eV 3) (aB (cN (aB (aJ (lv0 bH) (eC (.int 100)) (aJ (lv eJ) (eC (.int 7)) (eV 4))) (aB (aJ fIx (eV 1) (eV 5)) (aB (aJ fIx (eV 1) (eV 6)) (aB (eV 7) (aB (eV 8) (aB (eV 9) (aB (eV 10) (aH))))))))) (aH))))
 (sIf (tOf (aJ (lv dEq) (aR 2 aF (aB (eV 0) (aB (eC (.int 2)) (aH)))) (eC (.int 0)))) (eq (eM eD df (eV 3) (aB (cN (aB (aJ (lv0 bH) (eC (.int 103)) (aJ (lv eJ) (eC (.int 7)) (eV 4))) (aB (aJ fIx (eV 1) (eV 6)) (aB (aJ fIx (eV 1) (eV 5)) (aB (aJ (lv jv) (aJ (lv0 bH) (aJ (lv0 bH) (eV 7) (eV 8)) (eC (.int 60))) (eC (.int 1440))) (aB (eV 8) (aB (eV 9) (aB (eV 10) (aH))))))))) (aH)))) (bp))))))))))))
 (bW (cN (aB (eV 2) (aB (eB jx (aB (eIf (tOf (aJ (lv dEq) (aR 2 aF (aB (eV 0) (aB (eC (.int 2)) (aH)))) (eC (.int 0)))) (eV 3) (eRev (eV 3))) (aH))) (aH)))))))))
def fm:MF:=bF 12 mF
theorem qR (G:Gx P w K mg base):FnE P w K mg base 3 (He.ga K "_law_net") ["_law_state"] fm:=by
 obtain ⟨fd,F⟩:=G.jdO
 have fx:=G.fx
 refine ⟨fd,?_⟩
 refine bA (N:=N_law_net) (st:=qQ) (k:=2) F zqH rfl lT fun cdv A outer s H E hcd hp hr W tk=>?_
 have nd:N_law_net.Nodup:=zqD
 have hu1:=ru1 hr
 have hu64:=gH hr
 exact (aG (aw (aY (gF hu64) (aL (ps:=["_law_state","_law_many"]) (m:=aF) (aK G) hr.m fx.ja3 tk (aA (aC 0) (aA aD aE))) aD zqW) (aP (ae (aL (ps:=["_law_state"]) (m:=cy) (lH G) hr.m fx.jbB tk (aA (aC 0) aE)))) aX)
  (aG (aZ (i:=1) nd rfl zqE (gO (bD (aA ak (aA ak (aA ak (aA ak (aA ak (aA ak aE))))))) eK (bt (aN ar aD (aL (ps:=["_law_state","_law_many"]) (m:=aF) (aK G) hr.m fx.ja3 tk (aA (aC 0) (aA aD aE)))))))
  (aG (aZ (i:=2) nd rfl zqE (jl kg rfl fx.jcO aq (aA (cH (own:=[("_law_name",11)]) rfl nd (cS (aC 1)) (blkOk_by zqR) (fun _ _ _ _ _=>(bL (i:=11) nd rfl zqE zqC)) (fun _ _ _ _ _=>cG) (fun _ _ _ _ _=>(av (aA (aC 11) (aA (aU hu1 (bD (aA aD (aA aD (aA aD (aA (aN ar aD (aL (ps:=["_law_state","_law_many"]) (m:=aF) (aK G) hr.m fx.ja3 takes0 (aA (aC 0) (aA aD aE)))) aE))))) (aL (ps:=["_law_state","_law_many"]) (m:=aF) (aK G) hr.m fx.ja3 takes0 (aA (aC 0) (aA aD aE)))) aE))))) aE)))
  (aG (aZ (i:=3) nd rfl zqE (mR aE))
  (aG (fS hp rfl (eP rfl fx.jcK (aA (aN ar aD (aL (ps:=["_law_state","_law_many"]) (m:=aF) (aK G) hr.m fx.ja3 tk (aA (aC 0) (aA (aU hu1 (bD (aA aD (aA aD aE))) (aL (ps:=["_law_state","_law_many"]) (m:=aF) (aK G) hr.m fx.ja3 tk (aA (aC 0) (aA aD aE)))) aE)))) aE)) (bE (i:=4) nd rfl zqE) (aG (aZ (i:=5) nd rfl zqE (aL (ps:=["_law_state","_law_many"]) (m:=aF) (aK G) hr.m fx.ja3 tk (aA (aC 0) (aA (al cU rfl fx.jcI br (aA (aC 1) aE)) aE))))
  (aG (aZ (i:=6) nd rfl zqE (aN gK (aN ar (aN ar (aC 5) aD) (aL (ps:=["_law_state","_law_many"]) (m:=aF) (aK G) hr.m fx.ja3 tk (aA (aC 0) (aA (aN kI (al cU rfl fx.jcI br (aA (aC 1) aE)) aD) aE)))) (al cU rfl fx.jcI br (aA (aC 1) aE))))
  (aG (aZ (i:=7) nd rfl zqE (bD (aA (aN c9 aD (aL (ps:=["_law_state","_law_many"]) (m:=aF) (aK G) hr.m fx.ja3 tk (aA (aC 0) (aA aD aE)))) (aA (aN ar aD (aN c9 aD (aL (ps:=["_law_state","_law_many"]) (m:=aF) (aK G) hr.m fx.ja3 tk (aA (aC 0) (aA aD aE))))) (aA (aL (ps:=["_law_state","_law_many"]) (m:=aF) (aK G) hr.m fx.ja3 tk (aA (aC 0) (aA aD aE))) aE)))))
  (aG (aZ (i:=7) nd rfl zqE (aU hu1 (aC 7) (aL (ps:=["_law_state","_law_many"]) (m:=aF) (aK G) hr.m fx.ja3 tk (aA (aC 0) (aA aD aE)))))
  (aG (aZ (i:=8) nd rfl zqE (aU hu1 (bD (aA aD (aA (aN ar aD (aN c9 aD (aL (ps:=["_law_state","_law_many"]) (m:=aF) (aK G) hr.m fx.ja3 tk (aA (aC 0) (aA aD aE))))) (aA (aN ar aD (aL (ps:=["_law_state","_law_many"]) (m:=aF) (aK G) hr.m fx.ja3 tk (aA (aC 0) (aA aD aE)))) aE)))) (aN qg (aL (ps:=["_law_state","_law_many"]) (m:=aF) (aK G) hr.m fx.ja3 tk (aA (aC 0) (aA aD aE))) aD)))
  (aG (aZ (i:=9) nd rfl zqE (jl kg rfl fx.jcO aq (aA (cH (own:=[("_law_day",12)]) rfl nd (eP rfl fx.jcK (aA aD aE)) (blkOk_by zqR) (fun _ _ _ _ _=>(bL (i:=12) nd rfl zqE zqC)) (fun _ _ _ _ _=>(j6 (aY o_gt (aL (ps:=["_law_state","_law_many"]) (m:=aF) (aK G) hr.m fx.ja3 takes0 (aA (aC 0) (aA aD aE))) aD zqW))) (fun _ _ _ _ _=>(aC 12))) aE)))
  (aG (aZ (i:=9) nd rfl zqE (lm (aY (iB hu64) (aC 9) (av aE) zqW) (aC 9) (av (aA (aL (ps:=["_law_state","_law_many"]) (m:=aF) (aK G) hr.m fx.ja3 tk (aA (aC 0) (aA aD aE))) aE))))
  (aG (aZ (i:=10) nd rfl zqE (aU hu1 (bD (aA aD (aA (aN ar aD (aL (ps:=["_law_state","_law_many"]) (m:=aF) (aK G) hr.m fx.ja3 tk (aA (aC 0) (aA aD aE)))) (aA (aN ar aD (aL (ps:=["_law_state","_law_many"]) (m:=aF) (aK G) hr.m fx.ja3 tk (aA (aC 0) (aA aD aE)))) aE)))) (aL (ps:=["_law_state","_law_many"]) (m:=aF) (aK G) hr.m fx.ja3 tk (aA (aC 0) (aA aD aE)))))
  (aG (c7 (pX jN PySem.F.plainAttrs_list PySem.F.slot_list_append PySem.F.type_list_append ik (aC 3) (aA (av (aA (aN ar aD (aN c9 aD (aC 4))) (aA (aU hu1 (aC 1) (aC 5)) (aA (aU hu1 (aC 1) (aC 6)) (aA (aC 7) (aA (aC 8) (aA (aC 9) (aA (aC 10) aE)))))))) aE)))
  (aP (aw (aY (gF hu64) (aL (ps:=["_law_state","_law_many"]) (m:=aF) (aK G) hr.m fx.ja3 tk (aA (aC 0) (aA aD aE))) aD zqW) (aP (c7 (pX jN PySem.F.plainAttrs_list PySem.F.slot_list_append PySem.F.type_list_append ik (aC 3) (aA (av (aA (aN ar aD (aN c9 aD (aC 4))) (aA (aU hu1 (aC 1) (aC 6)) (aA (aU hu1 (aC 1) (aC 5)) (aA (aN gK (aN ar (aN ar (aC 7) (aC 8)) aD) aD) (aA (aC 8) (aA (aC 9) (aA (aC 10) aE)))))))) aE)))) aX))))))))))))
  (aP (ae (av (aA (aC 2) (aA (jl kg rfl fx.jcO aq (aA (lm (aY (gF hu64) (aL (ps:=["_law_state","_law_many"]) (m:=aF) (aK G) hr.m fx.ja3 tk (aA (aC 0) (aA aD aE))) aD zqW) (aC 3) (sE_rev (aC 3))) aE)) aE))))))))))
abbrev nD:Stmt:=(top 90)
abbrev N_law_great:List Str:=["_law_state","_law_places","_law_legs","_law_k"]
def jr:MS:=aV (ap 1 (eB jx (aB (cE (dz (aB (aJ (lv0 bH) (eC (.int 12)) (aR 2 aF (aB (eV 0) (aB (eC (.int 2)) (aH))))) (aH))) (gV 3) (b5) (cN (aB (aJ (lv0 bH) (aJ (lv0 bH) (eC (.str "a")) (aJ fIx (eC (.str "abcdefghijklm")) (eV 3))) (eC (.str "a"))) (aB (eC (.int 30)) (aH)))) [3]) (aH))))
 (aV (ap 2 (eB jx (aB (cE (dz (aB (aJ (lv0 bH) (eC (.int 60)) (aR 2 aF (aB (eV 0) (aB (eC (.int 2)) (aH))))) (aH))) (gV 3) (b5) (cN (aB (aJ (lv0 bH) (eV 3) (eC (.int 1))) (aB (eC (.str "aaa")) (aB (eC (.str "aba")) (aB (eC (.int 60)) (aB (eC (.int 60)) (aB (cN (aB (aJ (lv jv) (eV 3) (eC (.int 7))) (aH))) (aB (eC (.int 9)) (aH))))))))) [3]) (aH))))
 (bW (cN (aB (eV 1) (aB (eV 2) (aH))))))
def dq:MF:=bF 3 jr
theorem nE (G:Gx P w K mg base):FnE P w K mg base 2 (He.ga K "_law_great") ["_law_state"] dq:=by
 obtain ⟨fd,F⟩:=G.jdP
 have fx:=G.fx
 refine ⟨fd,?_⟩
 refine bA (N:=N_law_great) (st:=nD) (k:=1) F zqH rfl lT fun cdv A outer s H E hcd hp hr W tk=>?_
 have nd:N_law_great.Nodup:=zqD
 have hu1:=ru1 hr
 exact (aG (aZ (i:=1) nd rfl zqE (jl kg rfl fx.jcO aq (aA (cH (own:=[("_law_k",3)]) rfl nd (eP rfl fx.jcK (aA (aN ar aD (aL (ps:=["_law_state","_law_many"]) (m:=aF) (aK G) hr.m fx.ja3 tk (aA (aC 0) (aA aD aE)))) aE)) (blkOk_by zqR) (fun _ _ _ _ _=>(bL (i:=3) nd rfl zqE zqC)) (fun _ _ _ _ _=>cG) (fun _ _ _ _ _=>(av (aA (aN ar (aN ar ak (aU hu1 ak (aC 3))) ak) (aA aD aE))))) aE)))
  (aG (aZ (i:=2) nd rfl zqE (jl kg rfl fx.jcO aq (aA (cH (own:=[("_law_k",3)]) rfl nd (eP rfl fx.jcK (aA (aN ar aD (aL (ps:=["_law_state","_law_many"]) (m:=aF) (aK G) hr.m fx.ja3 tk (aA (aC 0) (aA aD aE)))) aE)) (blkOk_by zqR) (fun _ _ _ _ _=>(bL (i:=3) nd rfl zqE zqC)) (fun _ _ _ _ _=>cG) (fun _ _ _ _ _=>(av (aA (aN ar (aC 3) aD) (aA ak (aA ak (aA aD (aA aD (aA (av (aA (aN gK (aC 3) aD) aE)) (aA aD aE)))))))))) aE)))
  (aP (ae (av (aA (aC 1) (aA (aC 2) aE)))))))
abbrev nF:Stmt:=(top 77)
abbrev N_law_start:List Str:=["_law_script","_law_mixed","_law_cell"]
def js:MS:=aV (ap 1 (eC (.int 1)))
 (aV (jK (fR (eV 0)) (gV 2) (ap 1 (aJ (lv jv) (aJ (lv0 bH) (aJ (lv0 bH) (aJ (lv eJ) (eV 1) (eC (.int 48271))) (eV 2)) (eC (.int 7))) (eC (.int 2147483647)))))
 (bW (lp (aB (eV 0) (aB (eC (.int 0)) (aB (eV 1) (aB (eC (.int 0)) (aH))))))))
def dw:MF:=bF 2 js
theorem nH (G:Gx P w K mg base):FnE P w K mg base 1 (He.ga K "_law_start") ["_law_script"] dw:=by
 obtain ⟨fd,F⟩:=G.jdQ
 have fx:=G.fx
 refine ⟨fd,?_⟩
 refine bA (N:=N_law_start) (st:=nF) (k:=0) F zqH rfl lT fun cdv A outer s H E hcd hp hr W tk=>?_
 have nd:N_law_start.Nodup:=zqD
 exact (aG (aZ (i:=1) nd rfl zqE aD)
  (aG (fS hp rfl (cS (aC 0)) (bE (i:=2) nd rfl zqE) (aP (aZ (i:=1) nd rfl zqE (aN gK (aN ar (aN ar (aN c9 (aC 1) aD) (aC 2)) aD) aD))))
  (aP (ae (mR (aA (aC 0) (aA aD (aA (aC 1) (aA aD aE)))))))))
abbrev uc:Stmt:=(top 91)
abbrev N_law:List Str:=["_law_script","_law_state","_law_turn","_law_net_here","_law_k","_law_day","_law_days","_law_place","_law_change","_law_due","_law_works","_law_told","_law_work","_law_a","_law_b","_law_c","_law_d","_law_f"]
def f6 (q:Str) (F0 F1 F2 F3 F4 F5:Value→Addr→Value→Value→Obj):fu:=[(false,q,F0,(aR 3 hI (aB (eV 3) (aB (eC .none) (aB (eC (.int 0)) (aH)))))),(true,q,F1,(fun env S=>(aR 2 hJ (aB (eV 3) (aB (eC .none) (aH)))) (env.set 13 (some (.int 0))) S)),(true,q,F2,(fun env S=>(km 5 (.int 4) jW (aB (eV 3) (aB (eC .none) (aB (eC (.int 0)) (aB (eC (.int 0)) (aH)))))) (env.set 14 (some (.int 0))) S)),(true,q,F3,(fun env S=>(aR 4 fj (aB (eV 3) (aB (eC .none) (aB (eC (.int 0)) (aB (eC (.int 0)) (aH)))))) (env.set 15 (some (.int 0))) S)),(true,q,F4,(fun env S=>(aR 5 b9 (aB (eV 3) (aB (eC .none) (aB (eC (.int 0)) (aB (eC (.int 0)) (aB (eC (.int 0)) (aH))))))) (env.set 16 (some (.int 0))) S)),(true,q,F5,(fun env S=>(aR 2 mD (aB (eV 3) (aB (eC .none) (aH)))) (env.set 17 (some (.int 0))) S))]
def dZ:List ME:=[(aR 3 hI (aB (eV 3) (aB (eC .none) (aB (eC (.int 0)) (aH))))),(fun env S=>(aR 2 hJ (aB (eV 3) (aB (eC .none) (aH)))) (env.set 13 (some (.int 0))) S),(fun env S=>(km 5 (.int 4) jW (aB (eV 3) (aB (eC .none) (aB (eC (.int 0)) (aB (eC (.int 0)) (aH)))))) (env.set 14 (some (.int 0))) S),(fun env S=>(aR 4 fj (aB (eV 3) (aB (eC .none) (aB (eC (.int 0)) (aB (eC (.int 0)) (aH)))))) (env.set 15 (some (.int 0))) S),(fun env S=>(aR 5 b9 (aB (eV 3) (aB (eC .none) (aB (eC (.int 0)) (aB (eC (.int 0)) (aB (eC (.int 0)) (aH))))))) (env.set 16 (some (.int 0))) S),(fun env S=>(aR 2 mD (aB (eV 3) (aB (eC .none) (aH)))) (env.set 17 (some (.int 0))) S)]
def jA:MS:=aV (sIf (nh (tOf (aJ (lv mO) (eV 9) (eC .none))) (tOf (aJ (lv dNe) (eV 11) (aJ (lv dRep) (cO (aB (aJ (lv0 bU) (cV (aB (eC (.str "BadNet")) (aH))) (eV 9)) (aH))) (eC (.int 6)))))) (bW (eC (.bool false))) (bp))
 (sIf (nh (tOf (aJ (lv dIsN) (eV 9) (eC .none))) (tOf (aJ (lv dNe) (eV 11) (cO (aB (eC (.str "BadDay")) (aB (eC (.str "NoLeg")) (aB (eC (.str "BadPlace")) (aB (eC (.str "BadCount")) (aB (eC (.str "BadCount")) (aB (eC (.str "BadChain")) (aH))))))))))) (bW (eC (.bool false))) (bp))
abbrev lI (q:Str) (F0 F1 F2 F3 F4 F5:Value→Addr→Value→Value→Obj):MS:=aV (ap 10 (cO (aB (jy 0 false q F0) (aB (jy 1 true q F1) (aB (jy 2 true q F2) (aH))))))
 (aV (ap 10 (aJ (lv0 bU) (eV 10) (cO (aB (jy 3 true q F3) (aB (jy 4 true q F4) (aH))))))
 (aV (ap 11 (cE (fR (aJ (lv0 bU) (eV 10) (cO (aB (jy 5 true q F5) (aH))))) (gV 12) b5 (eI hdK 12 [10,12] (f6 q F0 F1 F2 F3 F4 F5)) [12]))
 (aV (ku [10]) jA)))
def fE:MS:=aV (ku [10]) (aV (ap 11 (dW hdK [10,12] dZ)) jA)
theorem om (q:Str) (F0 F1 F2 F3 F4 F5:Value→Addr→Value→Value→Obj):mm 18 (lI q F0 F1 F2 F3 F4 F5)=mm 18 fE:=by
 funext env S
 unfold mm
 by_cases hn:env.length=18
 ·rw[if_pos hn,if_pos hn]
  have hi0:10<env.length:=zqO
  have hj0:12<env.length:=zqO
  have hi:10<env.length:=by simpa using hi0
  have he:∀v:Option D,(env.set 10 v)[10]?=some v:=fun v=>List.getElem?_set_self hi
  have hcl:oG 0 (f6 q F0 F1 F2 F3 F4 F5)=[.clo 0 false q F0,.clo 1 true q F1,.clo 2 true q F2,.clo 3 true q F3,.clo 4 true q F4,.clo 5 true q F5]:=rfl
  have hms:(f6 q F0 F1 F2 F3 F4 F5).map (fun e=>e.2.2.2)=dZ:=rfl
  have hc:=rq (hd:=hdK) (j:=12) (fg:=[10,12]) (tab:=f6 q F0 F1 F2 F3 F4 F5) (mi:=fR (aJ (lv0 bU) (eV 10) (cO (aB (jy 5 true q F5) (aH))))) (env:=env.set 10 (some (.lst [.clo 0 false q F0,.clo 1 true q F1,.clo 2 true q F2,.clo 3 true q F3,.clo 4 true q F4]))) (S:=S) (by rw[hcl]; simp[he,dS,jy,bH]) (by rw[List.length_set]; simpa using hj0) zqC
  rw[kr zqC,hms] at hc
  have hT:dW hdK [10,12] dZ (env.set 10 none) S=dW hdK [10,12] dZ env S:=kr zqC
  rcases mj hdK [10,12] dZ env S with ⟨d,S2,e⟩|e
  ·rw[e] at hc hT
   unfold lI fE
   simp[-oD,ku,aa,jy,qy,bH,he,hc,hT,uE]
   all_goals first|exact uF _ _ _ _ _ _ _ _ (by simp[qz,ku,aa,kw])|(rw[List.set_comm _ _ (show (11:Nat)≠10 by decide),List.set_set])|(split<;>simp[ku,aa])
  ·rw[e] at hc hT
   unfold lI fE
   simp[-oD,ku,aa,jy,qy,bH,he,hc,hT,uE]
   all_goals first|exact uF _ _ _ _ _ _ _ _ (by simp[qz,ku,aa,kw])|(rw[List.set_comm _ _ (show (11:Nat)≠10 by decide),List.set_set])|(split<;>simp[ku,aa])
 ·rw[if_neg hn,if_neg hn]
def b_law:MS:=aV (ap 1 (aR 1 dw (aB (eV 0) (aH))))
 (aV (jK (dz (aB (eC (.int 5)) (aH))) (gV 2) (aV (ap 3 (eIf (tOf (aJ (lv dGt) (aR 2 aF (aB (eV 1) (aB (eC (.int 6)) (aH)))) (eC (.int 0)))) (aR 1 fm (aB (eV 1) (aH))) (aR 1 dq (aB (eV 1) (aH)))))
 (aV (sIf (tOf (aJ (lv dEq) (aR 2 aF (aB (eV 1) (aB (eC (.int 4)) (aH)))) (eC (.int 0)))) (aV (pO 4 5 (aB (aR 2 aF (aB (eV 1) (aB (eB b3 (aB (aJ fIx (eV 3) (eC (.int 1))) (aH))) (aH)))) (aB (aR 2 aF (aB (eV 1) (aB (eC (.int 6)) (aH)))) (aH))))
 (aV (ap 6 (aJ fIx (cO (aB (cV (aB (eV 5) (aB (eV 5) (aH)))) (aB (cV (aB (aJ (lv0 bU) (eV 5) (eC (.int 1))) (aB (eV 5) (aH)))) (aB (cV (aB (eV 5) (aB (aJ (lv0 bU) (eV 5) (eC (.int 2))) (aH)))) (aB (cV (aH)) (aB (cV (aB (eV 5) (aB (eC (.int 6)) (aH)))) (aB (cV (aB (eC (.int 0)) (aB (eC (.int 3)) (aB (eC (.int 3)) (aB (eC (.int 6)) (aH)))))) (aH)))))))) (aR 2 aF (aB (eV 1) (aB (eC (.int 6)) (aH))))))
 (ap 3 (cV (aB (aJ fIx (eV 3) (eC (.int 0))) (aB (aJ (lv0 bU) (aJ (lv0 bU) (gD (aJ fIx (eV 3) (eC (.int 1))) (pNo) (cq (eV 4))) (cV (aB (aJ (lv0 bU) (aJ (lv0 bU) (gD (aJ fIx (aJ fIx (eV 3) (eC (.int 1))) (eV 4)) (pNo) (cq (eC (.int 5)))) (cV (aB (eV 6) (aH)))) (gD (aJ fIx (aJ fIx (eV 3) (eC (.int 1))) (eV 4)) (cq (eC (.int 6))) (pNo))) (aH)))) (gD (aJ fIx (eV 3) (eC (.int 1))) (cq (aJ (lv0 bU) (eV 4) (eC (.int 1)))) (pNo))) (aH))))))) (bp))
 (aV (sIf (tOf (aJ (lv dEq) (aR 2 aF (aB (eV 1) (aB (eC (.int 4)) (aH)))) (eC (.int 0)))) (aV (ap 4 (aR 2 aF (aB (eV 1) (aB (eB b3 (aB (aJ fIx (eV 3) (eC (.int 0))) (aH))) (aH)))))
 (aV (ap 7 (cV (aB (aJ fIx (aJ fIx (aJ fIx (eV 3) (eC (.int 0))) (eV 4)) (eC (.int 0))) (aB (aJ fIx (cO (aB (eC (.int 9)) (aB (eC (.int 10)) (aB (eC (.int 300)) (aB (eC (.int 301)) (aH)))))) (aR 2 aF (aB (eV 1) (aB (eC (.int 4)) (aH))))) (aH)))))
 (ap 3 (cV (aB (aJ (lv0 bU) (aJ (lv0 bU) (gD (aJ fIx (eV 3) (eC (.int 0))) (pNo) (cq (eV 4))) (cV (aB (eV 7) (aH)))) (gD (aJ fIx (eV 3) (eC (.int 0))) (cq (aJ (lv0 bU) (eV 4) (eC (.int 1)))) (pNo))) (aB (aJ fIx (eV 3) (eC (.int 1))) (aH))))))) (bp))
 (aV (jK (dz (aB (aR 2 aF (aB (eV 1) (aB (eC (.int 3)) (aH)))) (aH))) (gV 8) (ap 3 (aR 2 (cY 8) (aB (eV 1) (aB (eV 3) (aH))))))
 (aV (ap 9 (aR 1 fk (aB (eV 3) (aH))))
 (mm 18 fE)))))))
 (bW (eC (.bool true))))
def oo:MF:=bF 17 b_law
theorem ok_law (G:Gx P w K mg base) {fd:FuncData} (F:FunD K "law" "law" (defArgs (top 91)) (defBody (top 91)) (defScope (top 91)) [] [] (He.ga K "law") fd):FnM P w K mg base 11 (He.ga K "law") fd ["_law_script"] oo:=by
 have fx:=G.fx
 refine bA (N:=N_law) (st:=uc) (k:=10) F zqH rfl lT fun cdv A outer s H E hcd hp hr W tk=>?_
 have nd:N_law.Nodup:=zqD
 have hu1:=ru1 hr
 have hu64:=gH hr
 have hu65:=iR hr
 have lh:=pj (X:=cxOf (L2N.CX P w) P w K mg base N_law "law" (defScope uc) (He.ga K "law") cdv A outer s H E) (p:=("law",none)) F rfl (G.tb (("law",none),"law.<locals>.<lambda>") zqC) hcd.symm rfl (G.tm (("law",none),"law.<locals>.<lambda>") zqC) (G.tu (("law",none),"law.<locals>.<lambda>") zqC)
 exact (aG (aZ (i:=1) nd rfl zqE (aL (ps:=["_law_script"]) (m:=dw) (nH G) hr.m fx.jbC tk (aA (aC 0) aE)))
  (aG (fS hp rfl (eP rfl fx.jcK (aA aD aE)) (bE (i:=2) nd rfl zqE) (aG (aZ (i:=3) nd rfl zqE (lm (aY o_gt (aL (ps:=["_law_state","_law_many"]) (m:=aF) (aK G) hr.m fx.ja3 tk (aA (aC 1) (aA aD aE))) aD zqW) (aL (ps:=["_law_state"]) (m:=fm) (qR G) hr.m fx.ja9 tk (aA (aC 1) aE)) (aL (ps:=["_law_state"]) (m:=dq) (nE G) hr.m fx.ja4 tk (aA (aC 1) aE))))
  (aG (aw (aY (gF hu64) (aL (ps:=["_law_state","_law_many"]) (m:=aF) (aK G) hr.m fx.ja3 tk (aA (aC 1) (aA aD aE))) aD zqW) (aG (mT (i:=4) (j:=5) rfl nd rfl rfl zqC rfl rfl (aA (aL (ps:=["_law_state","_law_many"]) (m:=aF) (aK G) hr.m fx.ja3 tk (aA (aC 1) (aA (al cU rfl fx.jcI br (aA (aU hu1 (aC 3) aD) aE)) aE))) (aA (aL (ps:=["_law_state","_law_many"]) (m:=aF) (aK G) hr.m fx.ja3 tk (aA (aC 1) (aA aD aE))) aE)))
  (aG (aZ (i:=6) nd rfl zqE (aU hu1 (bD (aA (bT (aA (aC 5) (aA (aC 5) aE))) (aA (bT (aA (aN cI (aC 5) aD) (aA (aC 5) aE))) (aA (bT (aA (aC 5) (aA (aN cI (aC 5) aD) aE))) (aA (bT aE) (aA (bT (aA (aC 5) (aA aD aE))) (aA (bT (aA aD (aA aD (aA aD (aA aD aE))))) aE))))))) (aL (ps:=["_law_state","_law_many"]) (m:=aF) (aK G) hr.m fx.ja3 tk (aA (aC 1) (aA aD aE)))))
  (aP (aZ (i:=3) nd rfl zqE (bT (aA (aU hu1 (aC 3) aD) (aA (aN cI (aN cI (eR (aU hu1 (aC 3) aD) eK (bt (aC 4))) (bT (aA (aN cI (aN cI (eR (aU hu1 (aU hu1 (aC 3) aD) (aC 4)) eK (bt aD)) (bT (aA (aC 6) aE))) (eR (aU hu1 (aU hu1 (aC 3) aD) (aC 4)) (bt aD) eK)) aE))) (eR (aU hu1 (aC 3) aD) (bt (aN cI (aC 4) aD)) eK)) aE))))))) aX)
  (aG (aw (aY (gF hu64) (aL (ps:=["_law_state","_law_many"]) (m:=aF) (aK G) hr.m fx.ja3 tk (aA (aC 1) (aA aD aE))) aD zqW) (aG (aZ (i:=4) nd rfl zqE (aL (ps:=["_law_state","_law_many"]) (m:=aF) (aK G) hr.m fx.ja3 tk (aA (aC 1) (aA (al cU rfl fx.jcI br (aA (aU hu1 (aC 3) aD) aE)) aE))))
  (aG (aZ (i:=7) nd rfl zqE (bT (aA (aU hu1 (aU hu1 (aU hu1 (aC 3) aD) (aC 4)) aD) (aA (aU hu1 (bD (aA aD (aA aD (aA aD (aA aD aE))))) (aL (ps:=["_law_state","_law_many"]) (m:=aF) (aK G) hr.m fx.ja3 tk (aA (aC 1) (aA aD aE)))) aE))))
  (aP (aZ (i:=3) nd rfl zqE (bT (aA (aN cI (aN cI (eR (aU hu1 (aC 3) aD) eK (bt (aC 4))) (bT (aA (aC 7) aE))) (eR (aU hu1 (aC 3) aD) (bt (aN cI (aC 4) aD)) eK)) (aA (aU hu1 (aC 3) aD) aE))))))) aX)
  (aG (fS hp rfl (eP rfl fx.jcK (aA (aL (ps:=["_law_state","_law_many"]) (m:=aF) (aK G) hr.m fx.ja3 tk (aA (aC 1) (aA aD aE))) aE)) (bE (i:=8) nd rfl zqE) (aP (aZ (i:=3) nd rfl zqE (aL (ps:=["_law_state","_law_thing"]) (m:=(cY 8)) (i9 G 8) hr.m fx.jbA tk (aA (aC 1) (aA (aC 3) aE))))))
  (aG (aZ (i:=9) nd rfl zqE (aL (ps:=["_law_net_here"]) (m:=fk) (qP G) hr.m fx.ja2 tk (aA (aC 3) aE)))
  (sSs_eq (om _ _ _ _ _ _ _) (vW 18 (aG (aZ (i:=10) nd rfl zqE (bD (aA (vT (k:=0) lh (lamS_by zqR) rfl rfl) (aA (io (k:=1) (x:="_law_a") lh (cx zqR) rfl rfl) (aA (io (k:=2) (x:="_law_b") lh (cx zqR) rfl rfl) aE)))))
  (aG (aZ (i:=10) nd rfl zqE (aN cI (aC 10) (bD (aA (io (k:=3) (x:="_law_c") lh (cx zqR) rfl rfl) (aA (io (k:=4) (x:="_law_d") lh (cx zqR) rfl rfl) aE)))))
  (aG (oP (i:=11) (k:=iT) (own:=[("_law_work",12)]) (hd:=hdK) (j:=12) (fg:=[10,12]) rfl nd rfl rfl rfl (vy G) fx.ja8 hr.m rfl rfl rfl (gx (qCl0 (k:=iT) (lamS_by zqR) (fun A outer s H E f c' hr W tk2=>by
  have hu1:=ru1 hr
  have hu64:=gH hr
  have hu65:=iR hr
  exact (aL (ps:=["net","first","last"]) (m:=hI) (uV G) hr.m fx.jbF tk2 (aA (aC 3) (aA dH (aA aD aE)))))) (gx (qCl1 (k:=iT) (i:=13) (cx zqR) nd rfl (fun A outer s H E f c' hr W tk2=>by
  have hu1:=ru1 hr
  have hu64:=gH hr
  have hu65:=iR hr
  exact (aL (ps:=["net","ride"]) (m:=hJ) (uX G) hr.m fx.jbR tk2 (aA (aC 3) (aA dH aE))))) (gx (qCl1 (k:=iT) (i:=14) (cx zqR) nd rfl (fun A outer s H E f c' hr W tk2=>by
  have hu1:=ru1 hr
  have hu64:=gH hr
  have hu65:=iR hr
  exact (t9 (ps:=["net","start","goal","when","most"]) (n:=4) (kn:="most") (dv:=4) (m:=jW) (vw G) hr.m fx.jbS tk2 (aA (aC 3) (aA dH (aA aD (aA aD aE))))))) (gx (qCl1 (k:=iT) (i:=15) (cx zqR) nd rfl (fun A outer s H E f c' hr W tk2=>by
  have hu1:=ru1 hr
  have hu64:=gH hr
  have hu65:=iR hr
  exact (aL (ps:=["net","turn","first","last"]) (m:=fj) (sH G) hr.m fx.jbG tk2 (aA (aC 3) (aA dH (aA aD (aA aD aE))))))) (gx (qCl1 (k:=iT) (i:=16) (cx zqR) nd rfl (fun A outer s H E f c' hr W tk2=>by
  have hu1:=ru1 hr
  have hu64:=gH hr
  have hu65:=iR hr
  exact (aL (ps:=["net","turn","first","last","cover"]) (m:=b9) (j0 G) hr.m fx.jbQ tk2 (aA (aC 3) (aA dH (aA aD (aA aD (aA aD aE)))))))) (gx (qCl1 (k:=iT) (i:=17) (cx zqR) nd rfl (fun A outer s H E f c' hr W tk2=>by
  have hu1:=ru1 hr
  have hu64:=gH hr
  have hu65:=iR hr
  exact (aL (ps:=["net","rides"]) (m:=mD) (ok_cut G) hr.m fx.jbE tk2 (aA (aC 3) (aA dH aE))))) cl_nil)))))) (cS (aN cI (aC 10) (bD (aA (io (k:=5) (x:="_law_f") lh (cx zqR) rfl rfl) aE)))) (blkOk_by zqR) zqC (fun _ _ _ _ _=>(bL (i:=12) nd rfl zqE zqC)))
  (vV [10] (aG (aw (bI (sy (aY o_isnt (aC 9) dH zqW) (qi (aY (iB hu64) (aC 11) (aN o_rep (bD (aA (aN cI (bT (aA ak aE)) (aC 9)) aE)) aD) zqW)))) (aP (ae bX)) aX)
  (aP (aw (bI (sy (aY o_is (aC 9) dH zqW) (qi (aY (iB hu64) (aC 11) (bD (aA ak (aA ak (aA ak (aA ak (aA ak (aA ak aE))))))) zqW)))) (aP (ae bX)) aX)))))))))))))))
  (aP (ae bX))))
end
end DL
namespace DL
open PySem PySem.Spec PyProof.Rows L2 LamX
def oq (b:Bool) (l:List Int):D:=if b then .tpn (l.map .int) else .tup (l.map .int)
structure Leg where
 num:Int
 start:Str
 goal:Str
 out:Int
 long:Int
 db:Bool
 days:List Int
 fare:Int
 deriving Inhabited
def Leg.d (l:Leg):D:=.tup [.int l.num,.str l.start,.str l.goal,.int l.out,.int l.long,oq l.db l.days,.int l.fare]
abbrev Ride:=Int × Int
structure lJ (names:List Str) (l:Leg):Prop where
 num:1≤l.num∧l.num≤9999
 s:l.start∈names
 g:l.goal∈names
 ne:l.start≠l.goal
 out:0≤l.out∧l.out<1440
 long:20≤l.long∧l.long≤900
 dne:l.days≠[]
 dlt:l.days.Pairwise (·<·)
 dbd:∀d∈l.days,0≤d∧d≤6
 fare:1≤l.fare∧l.fare≤100000
 odd:l.num≠99∧l.num≠9999
def six:List Str:=["aba","bcd","cad","dub","eli","fra"]
def jX (p:Str × Int):D:=.tup [.str p.1,.int p.2]
def netD (ps:List (Str × Int)) (ls:List Leg):D:=.tup [.tpn (ps.map jX),.tpn (ls.map Leg.d)]
structure NetOk (ps:List (Str × Int)) (ls:List Leg):Prop where
 names:∃n,2≤n∧n≤6∧ps.map (·.1)=six.take n
 ch:∀p∈ps,10≤p.2∧p.2≤300
 legs:∀l∈ls,lJ (ps.map (·.1)) l
 nd:(ls.map (·.num)).Nodup
 ne:ls≠[]
 len:ls.length≤60
 few:ls.length≤28
@[simp] theorem dayD_vt (b:Bool) (l:List Int):vt (oq b l)=.tup (l.map .int):=by cases b<;>rfl
@[simp] theorem dayD_view (S:Sto) (b:Bool) (l:List Int):view S (oq b l)=.tup (l.map .int):=by cases b<;>rfl
/-- a leg by its number -/
def legOf (ls:List Leg) (n:Int):Leg:=(ls.find? fun l=>l.num == n).getD default
def HasLeg (ls:List Leg) (n:Int):Prop:=∃l∈ls,l.num=n
theorem HasLeg.of {ls:List Leg} {l:Leg} (h:l∈ls):HasLeg ls l.num:=⟨l,h,rfl⟩
/-- what goes on a day -/
def rGoes (ls:List Leg) (r:Ride):Prop:=0≤r.1∧r.1≤60∧HasLeg ls r.2∧r.1 % 7∈(legOf ls r.2).days
theorem rGoes.has {ls:List Leg} {r:Ride} (h:rGoes ls r):HasLeg ls r.2:=h.2.2.1
structure NetAt (S:Sto) (l:Nat) (ps:List (Str × Int)) (ls:List Leg):Prop where
 ex:∃c g,S[l]?=some (.ins "Net" [("changes",.loc c),("legs",.loc g)])∧S[c]?=some (.dct false (ps.map fun p=>(.str p.1,.int p.2)))∧S[g]?=some (.dct false (ls.map fun x=>(.int x.num,x.d)))
/-- the same,told: its legs may be locked -/
structure NetL (S:Sto) (l:Nat) (ls:List Leg):Prop where
 ex:∃c g,S[l]?=some (.ins "Net" [("changes",.loc c),("legs",.loc g)])∧dE S[g]?=some (false,ls.map fun x=>(.int x.num,x.d))
theorem NetAt.l {S:Sto} {l:Nat} {ps:List (Str × Int)} {ls:List Leg} (h:NetAt S l ps ls):NetL S l ls:=by
 obtain ⟨c,g,h1,h2,h3⟩:=h.ex
 exact ⟨⟨c,g,h1,by rw[h3]; rfl⟩⟩
end DL
set_option maxHeartbeats 1000000
namespace DL
open PySem PySem.Spec PyProof.Rows L2 LamX
/-- the state of the drawing -/
def stD (sc:List Int) (p m r:Int):O:=.lst [.ro (sc.map .int),.int p,.int m,.int r]
structure Dr (sc:List Int) (o:O):Prop where
 ex:∃p m r,o=stD sc p m r∧0≤p∧0≤r
theorem qS {sc:List Int} {p m r:Int} {T:Sto} {many:Int} (hm:0<many) (hm2:many<1073741824) (h0:0≤p) (hr:0≤r) :
  ∃v p' m' r',aF [.loc 0,.int many] (stD sc p m r::T)=.ok (.int v) (stD sc p' m' r'::T)∧0≤v∧v<many∧0≤p'∧0≤r':=by
 by_cases h:0<r
 ·exact ⟨r % many,p,m,r / many,by simp[aF,dp,stD,fIx,h,hm,hm2,atI,ixN,dj,iA,fInt,eE],Int.emod_nonneg _ zqO,Int.emod_lt_of_pos _ hm,h0,Int.ediv_nonneg hr zqO⟩
 ·have hr0:r=0:=zqO
  subst hr0
  by_cases hp:p+1≤sc.length
  ·have hx:atI (sc.map D.int) p=some (.int (sc[p.toNat]'(by omega))):=by
    rw[gy h0 (by simp; omega)]
    simp[List.getElem?_map,List.getElem?_eq_getElem (show p.toNat<sc.length by omega)]
   generalize sc[p.toNat]'(by omega)=c at hx
   have x1:ixN 4 1=some 1:=rfl
   have x3:ixN 4 3=some 3:=rfl
   by_cases hc:1000000000000000000≤c
   ·refine ⟨c % many,p+1,m,c / many,?_,Int.emod_nonneg _ zqO,Int.emod_lt_of_pos _ hm,zqO,Int.ediv_nonneg zqO zqO⟩
    simp[aF,dp,stD,fIx,x1,x3,hx,hc,hm,hm2,dj,iA,fInt,eE,b3,hp,cPow]
   ·refine ⟨c % many,p+1,m,0,?_,Int.emod_nonneg _ zqO,Int.emod_lt_of_pos _ hm,zqO,zqO⟩
    simp[aF,dp,stD,fIx,x1,x3,hx,hc,hm,hm2,dj,iA,fInt,eE,b3,hp,cPow]
  ·refine ⟨(m*48271+11) % 2147483647 / 7 % many,p+1,(m*48271+11) % 2147483647,0,?_,Int.emod_nonneg _ zqO,Int.emod_lt_of_pos _ hm,zqO,zqO⟩
   simp[aF,dp,stD,fIx,hm,hm2,atI,ixN,dj,iA,fInt,eE,b3,hp,cPow,bV]
theorem aQ {sc:List Int} {o:O} {T:Sto} {many:Int} {Q:D→Sto→Prop} {E:XV→Sto→Prop} (d:Dr sc o) (hm:0<many) (hm2:many<1073741824) (k:∀(v:Int) (o':O),Dr sc o'→0≤v→v<many→Q (.int v) (o'::T)):Res.wp (aF [.loc 0,.int many] (o::T)) Q E:=by
 obtain ⟨p,m,r,rfl,h0,hr⟩:=d.ex
 obtain ⟨v,p',m',r',e,h1,h2,h3,h4⟩:=qS (sc:=sc) (m:=m) (T:=T) hm hm2 h0 hr
 rw[e,fc]
 exact k v _ ⟨p',m',r',rfl,h3,h4⟩ h1 h2
theorem ud {sc:List Int} {Q:D→Sto→Prop} {E:XV→Sto→Prop} (k:∀o,Dr sc o→Q (.loc 0) [o]):Res.wp (dw [.ro (sc.map .int)] []) Q E:=by
 unfold dw
 apply bO
 unfold js
 simp
 refine fw (f:=D.int) sc (fun _ _ env S=>∃m x,env=[some (.ro (sc.map .int)),some (.int m),x]∧S=[]) rfl ⟨_,_,rfl,rfl⟩ ?_ ?_
 ·rintro pre x rest env S _ ⟨m,y,rfl,rfl⟩
  refine ⟨_,rfl,?_⟩
  simp[bV,dj]
 ·rintro env S ⟨m,x,rfl,rfl⟩
  simp
  exact k _ ⟨0,m,0,rfl,zqO,zqO⟩
theorem ot {xs:List D} {v:Int} (h0:0≤v) (h1:v<xs.length) (P:D→Prop) (h:∀d∈xs,P d):∃d,atI xs v=some d∧P d:=by
 obtain ⟨x,hx,e⟩:=qD h0 h1
 exact ⟨x,e,h x hx⟩
theorem fo {n:Nat} (h:n≤6):(six.take n).length=n∧(six.take n).Nodup:=by
 have:n=0∨n=1∨n=2∨n=3∨n=4∨n=5∨n=6:=zqO
 rcases this with rfl|rfl|rfl|rfl|rfl|rfl|rfl<;>decide +kernel
theorem dO (lo:Int) (n:Nat):jH lo n=(List.range n).map fun i=>D.int (lo+(i:Nat)):=rfl
theorem lK {n:Nat} {pre rest:List Nat} {k:Nat} (h:pre++k::rest=List.range n):k=pre.length∧k<n:=by
 have hl:=congrArg List.length h
 simp at hl
 have hk:(pre++k::rest)[pre.length]?=some k:=by simp
 rw[h,List.getElem?_range zqO] at hk
 cases hk
 exact ⟨rfl,zqO⟩
/-- legs that are being drawn: k turns of them behind one another -/
structure LegsUpTo (names:List Str) (top:Int) (n:Nat) (ls:List Leg):Prop where
 ok:∀l∈ls,lJ names l
 nd:(ls.map (·.num)).Nodup
 lt:∀l∈ls,l.num<top
 len:ls.length≤n
theorem LegsUpTo.add {names:List Str} {t t':Int} {n n':Nat} {ls:List Leg} {l:Leg} (h:LegsUpTo names t n ls) (hl:lJ names l) (h1:t≤l.num) (h2:l.num<t') (hn:n+1≤n'):LegsUpTo names t' n' (ls++[l]) where
 ok:=fun x hx=>by
  rcases List.mem_append.mp hx with hx|hx
  ·exact h.ok x hx
  ·rw[List.mem_singleton.mp hx]; exact hl
 nd:=by
  rw[List.map_append,List.nodup_append]
  refine ⟨h.nd,zqS,fun a ha b hb=>?_⟩
  obtain ⟨x,hx,rfl⟩:=List.mem_map.mp ha
  obtain ⟨y,hy,rfl⟩:=List.mem_map.mp hb
  rw[List.mem_singleton.mp hy]
  have:=h.lt x hx
  omega
 lt:=fun x hx=>by
  rcases List.mem_append.mp hx with hx|hx
  ·have:=h.lt x hx
   omega
  ·rw[List.mem_singleton.mp hx]; exact h2
 len:=by rw[List.length_append]; have:=h.len; simp; omega
theorem LegsUpTo.mono {names:List Str} {t t':Int} {n n':Nat} {ls:List Leg} (h:LegsUpTo names t n ls) (h1:t≤t') (hn:n≤n'):LegsUpTo names t' n' ls:=
 ⟨h.ok,h.nd,fun l hl=>by have:=h.lt l hl; omega,by have:=h.len; omega⟩
theorem LegsUpTo.nil (names:List Str) (t:Int) (n:Nat):LegsUpTo names t n []:=⟨nofun,.nil,nofun,zqS⟩
def nm (i:Int):Str:=six.getD i.toNat ""
theorem rK:six.length=6:=rfl
theorem nI {i:Int} (h0:0≤i) (h1:i<6):six[i.toNat]?=some (nm i):=by
 unfold nm
 rw[List.getD_eq_getElem?_getD,List.getElem?_eq_getElem (by rw[rK]; omega)]
 rfl
theorem rL {m:Nat} {i:Int} (hm:m≤6) (h0:0≤i) (h1:i<m):atI ((six.take m).map D.str) i=some (.str (nm i)):=by
 rw[gy h0 (by rw[List.length_map,(fo hm).1]; exact h1),List.getElem?_map,List.getElem?_take_of_lt zqO,nI h0 zqO]
 rfl
theorem gi {m:Nat} {i:Int} (hm:m≤6) (h0:0≤i) (h1:i<m):nm i∈six.take m:=by
 have:=nI h0 zqO
 rw[←List.getElem?_take_of_lt (l:=six) (j:=m) zqO] at this
 exact List.mem_of_getElem? this
theorem rN {i j:Int} (h0:0≤i) (h1:i<6) (h2:0≤j) (h3:j<6) (h:i≠j):nm i≠nm j:=fun e=>by
 have nd:six.Nodup:=zqD
 have a:=nI h0 h1
 have b:=nI h2 h3
 rw[←e,←a] at b
 have:=(List.getElem?_inj (by rw[rK]; omega) nd).mp b
 omega
theorem ue {k m:Int} (h:2≤m) (c:Int) (h1:1≤c) (h2:c<m):(k+c) % m≠k % m:=fun e=>by
 have h3:=Int.emod_emod_of_dvd k (Int.dvd_refl m)
 have h4:(k+c - k) % m=0:=by rw[Int.sub_emod,e]; simp
 rw[show k+c - k=c by omega,Int.emod_eq_of_lt zqO h2] at h4
 omega
/-- days that a leg may have -/
structure DaysOk (ds:List Int):Prop where
 ne:ds≠[]
 lt:ds.Pairwise (·<·)
 bd:∀d∈ds,0≤d∧d≤6
theorem DaysOk.one {v:Int} (h0:0≤v) (h1:v<7):DaysOk [v]:=⟨by simp,zqS,fun d hd=>by rw[List.mem_singleton.mp hd]; omega⟩
theorem ou {m:Nat} {t:Int} {n:Nat} {ps:List (Str × Int)} {ls:List Leg} (h:LegsUpTo (six.take m) t n ls) (hm:2≤m∧m≤6) (hn:n≤28) (ne:ls≠[]) (hp:ps.map (·.1)=six.take m) (hc:∀p∈ps,10≤p.2∧p.2≤300):NetOk ps ls:=
 ⟨⟨m,hm.1,hm.2,hp⟩,hc,by rw[hp]; exact h.ok,h.nd,ne,by have:=h.len; omega,Nat.le_trans h.len hn⟩
/-- what stands as legs are drawn -/
structure LegI (sc:List Int) (T:Sto) (front:En) (names:List Str) (nt:Nat) (top:Int) (n:Nat) (env:En) (S:Sto):Prop where
 ex:∃o ls tail,Dr sc o∧tail.length=nt∧env=front++tail∧S=o::(T++[.lst (ls.map Leg.d)])∧LegsUpTo names top n ls∧(n≠0→ls≠[])
theorem len4 {α:Type} {l:List α} (h:l.length=4):∃a b c d,l=[a,b,c,d]:=by
 match l,h with
 | [a,b,c,d],_=>exact ⟨a,b,c,d,rfl⟩
theorem len9 {α:Type} {l:List α} (h:l.length=9):∃a b c d e f g i j,l=[a,b,c,d,e,f,g,i,j]:=by
 match l,h with
 | [a,b,c,d,e,f,g,i,j],_=>exact ⟨a,b,c,d,e,f,g,i,j,rfl⟩
/-- what stands as places are drawn -/
structure PlI (sc:List Int) (T:Sto) (pre:List Str) (acc:List D) (S:Sto):Prop where
 ex:∃o cs,Dr sc o∧S=o::T∧acc=(pre.zip cs).map jX∧cs.length=pre.length∧∀c∈cs,10≤c∧c≤300
theorem PlI.add {sc:List Int} {T:Sto} {pre:List Str} {cs:List Int} {o:O} {x:Str} {c:Int} (d:Dr sc o) (hc1:cs.length=pre.length) (hc2:∀c∈cs,10≤c∧c≤300) (hc:10≤c∧c≤300):PlI sc T (pre++[x]) ((pre.zip cs).map jX++[.tup [.str x,.int c]]) (o::T):=
 ⟨o,cs++[c],d,rfl,by rw[List.zip_append hc1.symm]; simp[jX],by simp[hc1],fun e he=>by
  rcases List.mem_append.mp he with he|he
  ·exact hc2 e he
  ·rw[List.mem_singleton.mp he]; exact hc⟩
/-- the shuttle's net -/
theorem qT {sc:List Int} {o:O} {T:Sto} {Q:D→Sto→Prop} {E:XV→Sto→Prop} (d:Dr sc o) (k:∀ps ls o' j,NetOk ps ls→Dr sc o'→Q (netD ps ls) (o'::(T++[j]))):Res.wp (cy [.loc 0] (o::T)) Q E:=by
 unfold cy
 apply bO
 unfold iI
 simp -dsimp
 refine aQ d zqO zqO fun v o1 d1 a1 a2=>?_
 obtain ⟨n,rfl⟩:=Int.eq_ofNat_of_zero_le a1
 simp -dsimp
 rw[show cM [D.str (Str.ofString "aba"),D.str (Str.ofString "bcd"),D.str (Str.ofString "cad")] none (some (2+(n:Int)))=(six.take (2+n)).map D.str by
  rw[show (2+(n:Int))=((2+n:Nat):Int) by omega,fz]
  have:n=0∨n=1:=zqO
  rcases this with rfl|rfl<;>rfl]
 generalize hm:2+n=m
 have hm1:2≤m∧m≤6:=zqO
 obtain ⟨nn,hnn⟩:∃nn,nn=(six.take m).map D.str:=⟨_,rfl⟩
 rw[←hnn]
 have hln:(nn.length:Int)=m:=by rw[hnn,List.length_map,(fo hm1.2).1]
 refine aQ d1 zqO zqO fun v1 o2 d2 b1 b2=>?_
 simp -dsimp
 refine aQ d2 zqO zqO fun v2 o3 d3 c1 c2=>?_
 simp -dsimp
 refine aQ d3 zqO zqO fun v3 o4 d4 e1 e2=>?_
 simp -dsimp
 refine aQ d4 zqO zqO fun v4 o5 d5 f1 f2=>?_
 obtain ⟨dd,hdd,ds,rfl,hds⟩:=ot (xs:=[.tup [.int 0,.int 1,.int 2,.int 3,.int 4,.int 5,.int 6],.tup [.int 1,.int 2,.int 5],.tup [.int v3]]) (v:=v4) f1 f2 (fun d=>∃ds,d=oq false ds∧DaysOk ds) (by
  intro d hd
  simp only[List.mem_cons,List.not_mem_nil,or_false] at hd
  rcases hd with rfl|rfl|rfl
  ·exact ⟨[0,1,2,3,4,5,6],rfl,zqS,zqD,zqD⟩
  ·exact ⟨[1,2,5],rfl,zqS,zqD,zqD⟩
  ·exact ⟨[v3],rfl,.one e1 e2⟩)
 simp -dsimp [hdd]
 refine aQ d5 zqO zqO fun v5 o6 d6 g1 g2=>?_
 have hs:bN (3+v5)=true:=fe zqO
 simp -dsimp [hs,dO]
 refine fw (f:=fun i:Nat=>D.int i) (List.range (3+v5).toNat) (fun pre _=>LegI sc T [some (.loc 0),some (.lst nn),some (.loc (T.length+1)),some (.int (20+10*v1)),some (.int (60+10*v2)),some (oq false ds)] (six.take m) 4 (10+3*pre.length) (2*pre.length)) zqS ⟨o6,[],[none,none,none,none],d6,rfl,rfl,rfl,.nil _ _ _,fun z=>absurd rfl z⟩ ?_ ?_
 ·rintro pre k rest env S hpre ⟨o',ls,tail,dd',ht,rfl,rfl,hL,_⟩
  obtain ⟨x6,x7,x8,x9,rfl⟩:=len4 ht
  obtain ⟨rfl,hk⟩:=lK hpre
  have hl1:=hL.len
  refine ⟨_,rfl,?_⟩
  have hk7:pre.length<7:=zqO
  have hm0:dj (pre.length:Int) m=true∧dj (pre.length+1:Int) m=true:=by simp[dj]; omega
  obtain ⟨i,hi⟩:∃i:Int,i=(pre.length:Int) % m:=⟨_,rfl⟩
  obtain ⟨j,hj⟩:∃j:Int,j=((pre.length:Int)+1) % m:=⟨_,rfl⟩
  have hi1:0≤i∧i<m:=by rw[hi]; exact ⟨Int.emod_nonneg _ zqO,Int.emod_lt_of_pos _ zqO⟩
  have hj1:0≤j∧j<m:=by rw[hj]; exact ⟨Int.emod_nonneg _ zqO,Int.emod_lt_of_pos _ zqO⟩
  have hij:i≠j:=by rw[hi,hj]; exact fun z=>ue zqO 1 zqO zqO z.symm
  have ei:atI nn i=some (.str (nm i)):=by rw[hnn]; exact rL hm1.2 hi1.1 hi1.2
  have ej:atI nn j=some (.str (nm j)):=by rw[hnn]; exact rL hm1.2 hj1.1 hj1.2
  have hgk:bV (60+10*v2) pre.length=true:=qF zqO
  have hll:ls.length<1000000:=zqO
  simp -dsimp [hln,hm0,←hi,←hj,ei,ej,hgk,eD,df,hll]
  have hd9:DaysOk ds:=hds
  obtain ⟨A,hA⟩:∃A:Leg,A=⟨10+3*pre.length,nm i,nm j,300+(60+10*v2)*pre.length,20+10*v1,false,ds,100+pre.length⟩:=⟨_,rfl⟩
  have ok1:lJ (six.take m) ⟨10+3*pre.length,nm i,nm j,300+(60+10*v2)*pre.length,20+10*v1,false,ds,100+pre.length⟩:=by
   have:(60+10*v2)*(pre.length:Int)≤150*6:=Int.mul_le_mul zqO zqO zqO zqO
   have:0≤(60+10*v2)*(pre.length:Int):=Int.mul_nonneg zqO zqO
   exact ⟨⟨by simp; omega,by simp; omega⟩,gi hm1.2 hi1.1 hi1.2,gi hm1.2 hj1.1 hj1.2,rN hi1.1 zqO hj1.1 zqO hij,⟨by simp; omega,by simp; omega⟩,⟨by simp; omega,by simp; omega⟩,hds.ne,hds.lt,hds.bd,⟨by simp; omega,by simp; omega⟩,⟨by simp only; omega,by simp only; omega⟩⟩
  rw[←hA] at ok1
  have hL1:=LegsUpTo.add (t':=11+3*pre.length) (n':=2*pre.length+1) hL ok1 (by simp[hA]) (by simp[hA]) zqO
  refine aQ dd' (by omega) zqO fun w1 o7 d7 p1 p2=>?_
  simp -dsimp
  refine mn (fun hw=>?_) (fun hw=>?_)
  ·simp -dsimp [eD,hgk]
   refine aQ d7 zqO zqO fun w2 o8 d8 q1 q2=>?_
   have hll1:ls.length+1<1000000:=zqO
   simp -dsimp [df,hll1]
   obtain ⟨B,hB⟩:∃B:Leg,B=⟨11+3*pre.length,nm j,nm i,300+(60+10*v2)*pre.length,20+10*v1+10*w2,false,ds,77⟩:=⟨_,rfl⟩
   have ok2:lJ (six.take m) ⟨11+3*pre.length,nm j,nm i,300+(60+10*v2)*pre.length,20+10*v1+10*w2,false,ds,77⟩:=by
    have:(60+10*v2)*(pre.length:Int)≤150*6:=Int.mul_le_mul zqO zqO zqO zqO
    have:0≤(60+10*v2)*(pre.length:Int):=Int.mul_nonneg zqO zqO
    exact ⟨⟨by simp; omega,by simp; omega⟩,gi hm1.2 hj1.1 hj1.2,gi hm1.2 hi1.1 hi1.2,rN hj1.1 zqO hi1.1 zqO hij.symm,⟨by simp; omega,by simp; omega⟩,⟨by simp; omega,by simp; omega⟩,hds.ne,hds.lt,hds.bd,⟨by simp,zqS⟩,⟨by simp only; omega,by simp only; omega⟩⟩
   rw[←hB] at ok2
   have hL2:=LegsUpTo.add (t':=10+3*(pre.length+1:Nat)) (n':=2*(pre.length+1)) hL1 ok2 (by simp[hB]) (by simp[hB]; omega) zqO
   exact ⟨o8,ls++[A]++[B],[_,_,_,_],d8,rfl,rfl,by simp[hA,hB,Leg.d],by simpa using hL2,zqS⟩
  ·simp -dsimp
   exact ⟨o7,ls++[A],[_,_,_,_],d7,rfl,rfl,by simp[hA,Leg.d],by simpa using hL1.mono (t':=10+3*(pre.length+1:Nat)) (n':=2*(pre.length+1)) zqO zqO,zqS⟩
 ·rintro env S ⟨o',ls,tail,dd',ht,rfl,rfl,hL,hne⟩
  obtain ⟨x6,x7,x8,x9,rfl⟩:=len4 ht
  simp -dsimp
  have hn2:nn.length≤1000000:=zqO
  refine k6 (f:=D.str) (six.take m) (fun pre _=>PlI sc (T++[.lst (ls.map Leg.d)]) pre) hnn ⟨o',[],dd',rfl,rfl,rfl,nofun⟩ ?_ ?_
  ·rintro pre x rest acc S hp ⟨o1,cs,dd1,rfl,rfl,hc1,hc2⟩
   refine ⟨_,rfl,?_⟩
   simp -dsimp
   refine aQ dd1 zqO zqO fun w2 o8 d8 q1 q2=>?_
   simp -dsimp
   have:=congrArg List.length hp
   simp[(fo hm1.2).1] at this
   exact ⟨by omega,.add d8 hc1 hc2 zqO⟩
  ·rintro acc S ⟨o1,cs,dd1,rfl,rfl,hc1,hc2⟩
   simp -dsimp [k7]
   have hpos:0<(3+v5).toNat:=zqO
   refine k ((six.take m).zip cs) ls o1 (.lst (ls.map Leg.d)) (ou hL hm1 (by simp; omega) (hne fun z=>?_) ?_ ?_) dd1
   ·simp at z
    omega
   ·rw[List.map_fst_zip zqO]
   ·intro p hp
    exact hc2 _ (List.of_mem_zip hp).2
/-- days drawn one by one -/
structure DyI (sc:List Int) (T:Sto) (k:Nat) (acc:List D) (S:Sto):Prop where
 ex:∃(o:O) (ds:List Int),Dr sc o∧S=o::T∧acc=ds.map D.int∧ds.Pairwise (·<·)∧(∀d∈ds,0≤d∧d<k)∧ds.length≤k
/-- days drawn -/
structure DyR (sc:List Int) (T:Sto) (d:D) (S:Sto):Prop where
 ex:∃o db ds,d=oq db ds∧S=o::T∧Dr sc o∧DaysOk ds
/-- the net that is drawn -/
theorem wp_net {sc:List Int} {o:O} {T:Sto} {Q:D→Sto→Prop} {E:XV→Sto→Prop} (d:Dr sc o) (k:∀ps ls o' j,NetOk ps ls→Dr sc o'→Q (netD ps ls) (o'::(T++[j]))):Res.wp (fm [.loc 0] (o::T)) Q E:=by
 unfold fm
 apply bO
 unfold mF
 simp -dsimp
 refine aQ d zqO zqO fun v o1 d1 a1 a2=>?_
 simp -dsimp
 refine mn (fun hv=>?_) (fun hv=>?_)
 ·simp -dsimp
  exact qT d1 fun ps ls o' j h dd=>by rw[rC]; exact k ps ls o' j h dd
 simp -dsimp
 clear a1 a2 hv v d o
 refine aQ d1 zqO zqO fun v o2 d2 a1 a2=>?_
 obtain ⟨n,rfl⟩:=Int.eq_ofNat_of_zero_le a1
 simp -dsimp
 rw[show cM [D.str (Str.ofString "aba"),D.str (Str.ofString "bcd"),D.str (Str.ofString "cad"),D.str (Str.ofString "dub"),D.str (Str.ofString "eli"),D.str (Str.ofString "fra")] none (some (2+(n:Int)))=(six.take (2+n)).map D.str by
  rw[show (2+(n:Int))=((2+n:Nat):Int) by omega,fz,List.map_take]; rfl]
 generalize hm:2+n=m
 have hm1:2≤m∧m≤6:=zqO
 obtain ⟨nn,hnn⟩:∃nn,nn=(six.take m).map D.str:=⟨_,rfl⟩
 rw[←hnn]
 have hln:(nn.length:Int)=m:=by rw[hnn,List.length_map,(fo hm1.2).1]
 refine k6 (f:=D.str) (six.take m) (fun pre _=>PlI sc T pre) hnn ⟨o2,[],d2,rfl,rfl,rfl,nofun⟩ ?_ ?_
 ·rintro pre x rest acc S hp ⟨o3,cs,d3,rfl,rfl,hc1,hc2⟩
  refine ⟨_,rfl,?_⟩
  simp -dsimp
  refine aQ d3 zqO zqO fun w1 o4 d4 p1 p2=>?_
  simp -dsimp
  refine aQ d4 zqO zqO fun w2 o5 d5 q1 q2=>?_
  obtain ⟨dd,hdd,c,rfl,hc⟩:=ot (xs:=[.int 30,.int 10,.int 60,.int (10+w1)]) (v:=w2) q1 q2 (fun d=>∃c,d=.int c∧10≤c∧c≤300) (by
   intro d hd
   simp only[List.mem_cons,List.not_mem_nil,or_false] at hd
   rcases hd with rfl|rfl|rfl|rfl
   ·exact ⟨_,rfl,zqO,zqO⟩
   ·exact ⟨_,rfl,zqO,zqO⟩
   ·exact ⟨_,rfl,zqO,zqO⟩
   ·exact ⟨_,rfl,zqO,zqO⟩)
  simp -dsimp [hdd]
  have:=congrArg List.length hp
  simp[(fo hm1.2).1] at this
  exact ⟨by omega,.add d5 hc1 hc2 hc⟩
 rintro acc S ⟨o3,cs,d3,rfl,rfl,hc1,hc2⟩
 have hps1:((six.take m).zip cs).map (·.1)=six.take m:=List.map_fst_zip zqO
 have hps2:∀p∈(six.take m).zip cs,10≤p.2∧p.2≤300:=fun p hp=>hc2 _ (List.of_mem_zip hp).2
 generalize (six.take m).zip cs=ps at hps1 hps2
 clear hc1 hc2 cs
 simp -dsimp
 refine aQ d3 zqO zqO fun w1 o4 d4 p1 p2=>?_
 obtain ⟨dd,hdd,w2,rfl,hw2⟩:=ot (xs:=[.int 6,.int 13]) (v:=w1) p1 p2 (fun d=>∃c,d=.int c∧6≤c∧c≤13) (by
   intro d hd
   simp only[List.mem_cons,List.not_mem_nil,or_false] at hd
   rcases hd with rfl|rfl
   ·exact ⟨_,rfl,zqO,zqO⟩
   ·exact ⟨_,rfl,zqO,zqO⟩)
 simp -dsimp [hdd]
 refine aQ d4 zqO zqO fun w3 o5 d5 q1 q2=>?_
 have hs:bN (2+w3)=true:=fe zqO
 simp -dsimp [hs,dO]
 refine fw (f:=fun i:Nat=>D.int i) (List.range (2+w3).toNat) (fun pre _=>LegI sc T [some (.loc 0),some (.lst nn),some (.tpn (ps.map jX)),some (.loc (T.length+1))] (six.take m) 9 (100+7*pre.length) (2*pre.length)) zqS ⟨o5,[],[none,none,none,none,none,none,none,none,none],d5,rfl,rfl,rfl,.nil _ _ _,fun z=>absurd rfl z⟩ ?_ ?_
 ·rintro pre k rest env S hpre ⟨o6,ls,tail,d6,ht,rfl,rfl,hL,_⟩
  obtain ⟨x4,x5,x6,x7,x8,x9,x10,x11,x12,rfl⟩:=len9 ht
  obtain ⟨rfl,hk⟩:=lK hpre
  have hl1:=hL.len
  refine ⟨_,rfl,?_⟩
  have hk7:pre.length<14:=zqO
  simp -dsimp [hln]
  refine aQ d6 zqO zqO fun i o7 d7 i1 i2=>?_
  simp -dsimp [hln]
  refine aQ d7 zqO zqO fun w4 o8 d8 r1 r2=>?_
  have hcm:dj (i+1+w4) m=true:=by simp[dj]; omega
  obtain ⟨j,hj⟩:∃j:Int,j=(i+1+w4) % m:=⟨_,rfl⟩
  have hj1:0≤j∧j<m:=by rw[hj]; exact ⟨Int.emod_nonneg _ zqO,Int.emod_lt_of_pos _ zqO⟩
  have hij:i≠j:=by
   rw[hj]
   intro z
   refine ue (k:=i) (m:=m) zqO (1+w4) zqO zqO ?_
   rw[Int.emod_eq_of_lt i1 zqO,←Int.add_assoc]; exact z.symm
  have ei:atI nn i=some (.str (nm i)):=by rw[hnn]; exact rL hm1.2 i1 i2
  have ej:atI nn j=some (.str (nm j)):=by rw[hnn]; exact rL hm1.2 hj1.1 hj1.2
  simp -dsimp [hln,hcm,←hj]
  clear hcm hj w4 r1 r2
  refine aQ d8 zqO zqO fun w4 o9 d9 s1 s2=>?_
  simp -dsimp
  refine aQ d9 zqO zqO fun w5 o10 d10 s3 s4=>?_
  simp -dsimp
  refine aQ d10 zqO zqO fun w6 o11 d11 s5 s6=>?_
  simp -dsimp
  refine aQ d11 zqO zqO fun w7 o12 d12 s7 s8=>?_
  obtain ⟨dd,hdd,out,rfl,hout⟩:=ot (xs:=[.int (60*w4),.int (300+10*w5),.int w6]) (v:=w7) s7 s8 (fun d=>∃c,d=.int c∧0≤c∧c<1440) (by
   intro d hd
   simp only[List.mem_cons,List.not_mem_nil,or_false] at hd
   rcases hd with rfl|rfl|rfl
   ·exact ⟨_,rfl,zqO,zqO⟩
   ·exact ⟨_,rfl,zqO,zqO⟩
   ·exact ⟨_,rfl,zqO,zqO⟩)
  simp -dsimp [hdd]
  clear hdd w4 s1 s2 w5 s3 s4 w6 s5 s6 w7 s7 s8 d1 d2 d3 d4 d5 d6 d7 d8 d9 d10 d11
  refine aQ d12 zqO zqO fun w4 o13 d13 s1 s2=>?_
  simp -dsimp
  refine aQ d13 zqO zqO fun w5 o14 d14 s3 s4=>?_
  simp -dsimp
  refine aQ d14 zqO zqO fun w6 o15 d15 s5 s6=>?_
  obtain ⟨dd,hdd,long,rfl,hlong⟩:=ot (xs:=[.int 60,.int (20+10*w4),.int (20+w5)]) (v:=w6 / 4) zqO (by simp; omega) (fun d=>∃c,d=.int c∧20≤c∧c≤900) (by
   intro d hd
   simp only[List.mem_cons,List.not_mem_nil,or_false] at hd
   rcases hd with rfl|rfl|rfl
   ·exact ⟨_,rfl,zqO,zqO⟩
   ·exact ⟨_,rfl,zqO,zqO⟩
   ·exact ⟨_,rfl,zqO,zqO⟩)
  simp -dsimp [hdd,dO]
  clear hdd w4 s1 s2 w5 s3 s4 w6 s5 s6
  refine k6 (f:=fun i:Nat=>D.int i) (List.range 7) (fun pre2 _=>DyI sc (T++[.lst (ls.map Leg.d)]) pre2.length) (by rfl) ⟨o15,[],d15,rfl,rfl,.nil,nofun,zqS⟩ ?_ ?_
  ·rintro pre2 k2 rest2 acc2 S2 hp2 ⟨p1,ds,e1,rfl,rfl,y1,y2,y3⟩
   obtain ⟨rfl,hk2⟩:=lK hp2
   refine ⟨_,rfl,?_⟩
   simp -dsimp
   refine aQ e1 zqO zqO fun w4 p2 e2 s1 s2=>?_
   by_cases hw4:0<w4
   ·simp -dsimp [hw4]
    refine ⟨by omega,p2,ds++[(pre2.length:Int)],e2,rfl,zqS,?_,?_,by simp; omega⟩
    ·rw[List.pairwise_append]
     exact ⟨y1,zqS,fun a ha b hb=>by rw[List.mem_singleton.mp hb]; exact (y2 a ha).2⟩
    ·intro d hd
     rcases List.mem_append.mp hd with hd|hd
     ·have:=y2 d hd; simp; omega
     ·rw[List.mem_singleton.mp hd]; simp; omega
   ·simp -dsimp [hw4]
    exact ⟨p2,ds,e2,rfl,rfl,y1,fun d hd=>by have:=y2 d hd; omega,zqO⟩
  rintro acc2 S2 ⟨p1,ds0,e1,rfl,rfl,y1,y2,y3⟩
  simp at y2 y3
  simp -dsimp
  refine vf (Q:=DyR sc (T++[.lst (ls.map Leg.d)])) ?_ ?_
  ·cases ds0 with
   | nil=>
    simp -dsimp
    refine aQ e1 zqO zqO fun w4 p2 e2 s1 s2=>?_
    simp -dsimp
    exact ⟨p2,false,[w4],rfl,rfl,e2,.one s1 s2⟩
   | cons a b=>
    simp -dsimp
    exact ⟨p1,true,a::b,rfl,rfl,e1,zqS,y1,fun d hd=>by have:=y2 d hd; omega⟩
  clear y1 y2 y3 e1 p1
  rintro dd S2 ⟨p2,db,ds,rfl,rfl,e2,hds⟩
  simp -dsimp
  refine aQ e2 zqO zqO fun w4 o13 d13 s1 s2=>?_
  simp -dsimp
  refine aQ d13 zqO zqO fun w5 o14 d14 s3 s4=>?_
  simp -dsimp
  refine aQ d14 zqO zqO fun w6 o15 d15 s5 s6=>?_
  obtain ⟨dd,hdd,fare,rfl,hfare⟩:=ot (xs:=[.int 100,.int (1+w4),.int (1+w5)]) (v:=w6) zqO (by simp; omega) (fun d=>∃c,d=.int c∧1≤c∧c≤100000) (by
   intro d hd
   simp only[List.mem_cons,List.not_mem_nil,or_false] at hd
   rcases hd with rfl|rfl|rfl
   ·exact ⟨_,rfl,zqO,zqO⟩
   ·exact ⟨_,rfl,zqO,zqO⟩
   ·exact ⟨_,rfl,zqO,zqO⟩)
  have hll:ls.length<1000000:=zqO
  simp -dsimp [hdd,ei,ej,eD,df,hll]
  clear hdd w4 s1 s2 w5 s3 s4 w6 s5 s6 e2 d12 d13 d14
  refine aQ d15 zqO zqO fun w4 o16 d16 s1 s2=>?_
  obtain ⟨A,hA⟩:∃A:Leg,A=⟨100+7*pre.length,nm i,nm j,out,long,db,ds,fare⟩:=⟨_,rfl⟩
  have ok1:lJ (six.take m) A:=by
   rw[hA]
   exact ⟨⟨by simp; omega,by simp; omega⟩,gi hm1.2 i1 i2,gi hm1.2 hj1.1 hj1.2,rN i1 zqO hj1.1 zqO hij,hout,hlong,hds.ne,hds.lt,hds.bd,hfare,⟨by simp only; omega,by simp only; omega⟩⟩
  have hL1:=LegsUpTo.add (t':=103+7*pre.length) (n':=2*pre.length+1) hL ok1 (by simp[hA]) (by simp[hA]) zqO
  simp -dsimp
  refine mn (fun hw=>?_) (fun hw=>?_)
  ·have hll1:ls.length+1<1000000:=zqO
   simp -dsimp [ei,ej,eD,df,hll1]
   obtain ⟨B,hB⟩:∃B:Leg,B=⟨103+7*pre.length,nm j,nm i,(out+long+60) % 1440,long,db,ds,fare⟩:=⟨_,rfl⟩
   have ok2:lJ (six.take m) B:=by
    rw[hB]
    exact ⟨⟨by simp; omega,by simp; omega⟩,gi hm1.2 hj1.1 hj1.2,gi hm1.2 i1 i2,rN hj1.1 zqO i1 zqO hij.symm,⟨Int.emod_nonneg _ zqO,Int.emod_lt_of_pos _ zqO⟩,hlong,hds.ne,hds.lt,hds.bd,hfare,⟨by simp only; omega,by simp only; omega⟩⟩
   have hL2:=LegsUpTo.add (t':=100+7*(pre.length+1:Nat)) (n':=2*(pre.length+1)) hL1 ok2 (by simp[hB]) (by simp[hB]; omega) zqO
   exact ⟨o16,ls++[A]++[B],[_,_,_,_,_,_,_,_,_],d16,rfl,rfl,by simp[hA,hB,Leg.d],by simpa using hL2,zqS⟩
  ·simp -dsimp
   exact ⟨o16,ls++[A],[_,_,_,_,_,_,_,_,_],d16,rfl,rfl,by simp[hA,Leg.d],by simpa using hL1.mono (t':=100+7*(pre.length+1:Nat)) (n':=2*(pre.length+1)) zqO zqO,zqS⟩
 ·rintro env S ⟨o6,ls,tail,d6,ht,rfl,rfl,hL,hne⟩
  obtain ⟨x4,x5,x6,x7,x8,x9,x10,x11,x12,rfl⟩:=len9 ht
  have hne:ls≠[]:=hne (by simp; omega)
  simp -dsimp
  refine aQ d6 zqO zqO fun w4 o16 d16 s1 s2=>?_
  have hok:=ou hL hm1 (by simp; omega) hne hps1 hps2
  by_cases hw:w4=0
  ·simp -dsimp [hw,k7]
   exact k ps ls o16 (.lst (ls.map Leg.d)) hok d16
  ·simp -dsimp [hw,k7]
   have:=k ps ls.reverse o16 (.lst (ls.map Leg.d)) ⟨hok.names,hok.ch,fun l hl=>hok.legs l (List.mem_reverse.mp hl),by rw[List.map_reverse]; exact (List.reverse_perm _).symm.nodup hok.nd,by simpa using hne,by simpa using hok.len,by simpa using hok.few⟩ d16
   unfold netD at this
   rw[List.map_reverse] at this
   exact this
theorem fF {α:Type} {r:Res α} {v:α} {S0:Sto} (h:Res.wp r (fun a S'=>a=v∧S'=S0) NoE):r=.ok v S0:=by
 cases r with
 | ok a S=>rw[fc] at h; obtain ⟨rfl,rfl⟩:=h; rfl
 | exc e S=>simp at h
 | stuck=>simp at h
theorem bC {τ:Type} {g:MG} {tc:MT} {m:ME} {w:En} {f:τ→D} {ds:List D} {S:Sto} {Q:List D→Sto→Prop} {E:XV→Sto→Prop} (xs:List τ) (p:τ→Bool) (v:τ→D) (e:ds=xs.map f) (hl:xs.length≤1000000)
  (hx:∀x∈xs,∃e,g (f x) w S=some (e,S)∧tc e S=.ok (p x) S∧(p x=true→m e S=.ok (v x) S)) (q:Q ((xs.filter p).map v) S):Res.wp (dM g tc m w ds [] S) Q E:=by
 rw[e,qC xs p v hl hx,fc]; exact q
theorem dC {α:Type} (xs:List α):xs.filter (fun _=>true)=xs:=List.filter_eq_self.mpr fun _ _=>rfl
@[simp] theorem uf {τ:Type} (S:Sto) (xs:List τ) (g:τ→Bool):mX S [.lst (xs.map fun x=>.bool (g x))]=some (.bool (xs.all g)):=by
 have:=qE S (xs.map g)
 rw[List.map_map] at this
 rw[show (xs.map fun x=>D.bool (g x))=xs.map (D.bool∘g) from rfl,this,List.all_map]
 rfl
@[simp] theorem cut_1 {α:Type} (xs:List α):cM xs (some 1) none=xs.tail:=by
 rw[show (1:Int)=((1:Nat):Int) from rfl,ir,List.drop_one]
theorem ug {τ:Type} (f:τ→D) (xs:List τ):eA (xs.map f) (xs.map f).tail=(xs.zip xs.tail).map fun p=>D.tup [f p.1,f p.2]:=by
 rw[←List.map_tail,rD]
/-- a whole number between two -/
def aW (x:D) (a b:Int):Bool:=match x with
 | .int i=>decide (a≤i)&&decide (i≤b)
 | _=>false
@[simp] theorem known_int:de "int"=true:=rfl
@[simp] theorem known_bool:de "bool"=true:=rfl
@[simp] theorem known_str:de "str"=true:=rfl
@[simp] theorem wS:de "tuple"=true:=rfl
@[simp] theorem known_list:de "list"=true:=rfl
@[simp] theorem known_dict:de "dict"=true:=rfl
@[simp] theorem tyo_int (S:Sto) (i:Int):gG S (.int i)=some "int":=rfl
@[simp] theorem tyo_bool (S:Sto) (i:Bool):gG S (.bool i)=some "bool":=rfl
@[simp] theorem tyo_str (S:Sto) (i:Str):gG S (.str i)=some "str":=rfl
@[simp] theorem tyo_tup (S:Sto) (i:List D):gG S (.tup i)=some "tuple":=rfl
@[simp] theorem tyo_tpn (S:Sto) (i:List D):gG S (.tpn i)=some "tuple":=rfl
@[simp] theorem tyo_lst (S:Sto) (i:List D):gG S (.lst i)=some "list":=rfl
@[simp] theorem lL (S:Sto):gG S .none=some "NoneType":=rfl
@[simp] theorem tyo_day (S:Sto) (b:Bool) (l:List Int):gG S (oq b l)=some "tuple":=by cases b<;>rfl
@[simp] theorem isTy_at (a b:String):isTy a b=(a == b||(a == "bool"&&b == "int")):=rfl
theorem lM {S:Sto} {x:D} {t:String} (a b:Int) (h:gG S x=some t):aS [x,.int a,.int b] S=.ok (.bool (aW x a b)) S:=by
 have st:∀t:String,t≠"int"→t≠"bool"→gG S x=some t→aW x a b=false→aS [x,.int a,.int b] S=.ok (.bool (aW x a b)) S:=by
  intro t h1 h2 h3 h4
  simp[aS,fP,bJ,h3,h1,h2,h4]
 cases x with
 | int i=>
  by_cases h1:a≤i<;>by_cases h2:i≤b<;>simp[aS,fP,bJ,aW,h1,h2]
 | bool i=>simp[aS,fP,bJ,aW]
 | none=>cases h; exact st _ zqC zqC rfl rfl
 | str=>cases h; exact st _ zqC zqC rfl rfl
 | tup=>cases h; exact st _ zqC zqC rfl rfl
 | tpn=>cases h; exact st _ zqC zqC rfl rfl
 | lst=>cases h; exact st _ zqC zqC rfl rfl
 | loc l=>
  simp only[gG] at h
  refine st t ?_ ?_ (by simp only[gG]; exact h) rfl
  ·rintro rfl; split at h<;>simp at h
  ·rintro rfl; split at h<;>simp at h
 | ty=>cases h
 | ro=>cases h
 | glo=>cases h
 | adr=>cases h
 | clo=>cases h
 | exn=>cases h
@[simp] theorem num_int (S:Sto) (i a b:Int):aS [.int i,.int a,.int b] S=.ok (.bool (decide (a≤i)&&decide (i≤b))) S:=lM a b rfl
theorem sK {τ:Type} {ps:List τ} {pre rest:List (τ × Nat)} {x:τ × Nat} (h:pre++x::rest=ps.zipIdx):x.2=pre.length∧ps=pre.map (·.1)++x.1::rest.map (·.1):=by
 have h1:=congrArg (fun l=>l.map (·.1)) h
 have h2:=congrArg (fun l=>l[pre.length]?) h
 simp at h1 h2
 refine ⟨?_,h1.symm⟩
 obtain ⟨a,ha,e⟩:=Option.map_eq_some_iff.mp h2.symm
 rw[←e]
def cf:List Nat:=(("abcdefghijklmnopqrstuvwxyz":Str)).cps.toList
/-- a text of so many cf -/
def cg (x:Str) (a b:Int):Bool:=(decide (a≤x.length)&&decide ((x.length:Int)≤b))&&x.cps.toList.all (fun c=>decide (c∈cf))
theorem vz {S:Sto} {x:Str} (a b:Int) (hx:x.length≤1000000):bw [.str x,.int a,.int b] S=.ok (.bool (cg x a b)) S:=by
 have hl:b3 S [.str x]=some (.int x.length):=by simp[b3,hx]
 have hi:dS S (.str x)=some (.items (x.cps.toList.map fun c=>D.str ⟨#[c]⟩)):=by simp[dS,hx,gA]
 apply fF
 unfold bw
 apply bO
 unfold dF
 by_cases h1:a≤x.length
 ·by_cases h2:(x.length:Int)≤b
  ·simp -dsimp [bJ,hl,h1,h2,hi]
   refine bC (f:=fun c=>D.str ⟨#[c]⟩) x.cps.toList (fun _=>true) (fun c=>.bool (decide (c∈cf))) rfl (by simpa [Str.length] using hx) (fun c hc=>⟨[some (.str x),some (.int a),some (.int b),some (.str ⟨#[c]⟩)],rfl,rfl,fun _=>?_⟩) ?_
   ·simp[dIn,cf]
   ·rw[dC]
    simp -dsimp
    simp[cg,h1,h2]
  ·simp -dsimp [bJ,hl,h1,h2]
   simp[cg,h1,h2]
 ·simp -dsimp [bJ,hl,h1]
  simp[cg,h1]
theorem sL {xs:List D} {a:D} (h:∀z∈xs,peq z a=false):(xs.any fun z=>peq z a)=false:=by
 rw[List.any_eq_false]
 intro z hz
 rw[h z hz]; simp
theorem jY {S:Sto} {a:D} {xs:List D} (h1:dok 60 a=true) (h2:∀x∈xs,dok 59 x=true) (h:∀z∈xs,peq z a=false):dIn S a (.lst xs)=some false:=by
 simp only[dIn,oC,h1,l7,List.all_eq_true.mpr h2,sL h]
 rfl
theorem uh {S:Sto} {a:D} {xs:List D} (h1:dok 60 a=true) (h2:∀x∈xs,dok 59 x=true) (h:∃z∈xs,peq z a=true):dIn S a (.lst xs)=some true:=by
 have:(xs.any fun z=>peq z a)=true:=List.any_eq_true.mpr h
 simp only[dIn,oC,h1,l7,List.all_eq_true.mpr h2,this]
 rfl
theorem iJ:∀ {ds:List Int} {lo:Int},ds.Pairwise (·<·)→(∀d∈ds,lo≤d∧d≤6)→lo≤7→(ds.length:Int)≤7 - lo
 | [],lo,_,_,h=>by simp; omega
 | a::ds,lo,h1,h2,h=>by
  rw[List.pairwise_cons] at h1
  have ha:=h2 a List.mem_cons_self
  have:=iJ (lo:=a+1) h1.2 (fun d hd=>⟨by have:=h1.1 d hd; omega,(h2 d (List.mem_cons_of_mem _ hd)).2⟩) zqO
  simp
  omega
theorem ow {ds:List Int} (h1:ds.Pairwise (·<·)) (h2:∀d∈ds,0≤d∧d≤6):ds.length≤7:=by
 have:=iJ h1 h2 zqO
 omega
theorem NetOk.sub {ps:List (Str × Int)} {ls:List Leg} (h:NetOk ps ls):∀x∈ps.map (·.1),x∈six:=by
 obtain ⟨n,_,_,e⟩:=h.names
 rw[e]
 exact fun x hx=>List.mem_of_mem_take hx
theorem NetOk.plen {ps:List (Str × Int)} {ls:List Leg} (h:NetOk ps ls):2≤ps.length∧ps.length≤6:=by
 obtain ⟨n,h2,h6,e⟩:=h.names
 have:=congrArg List.length e
 rw[List.length_map,(fo h6).1] at this
 omega
/-- plain data,not deep,not long -/
def bc:Nat→D→Bool
 | _,.none=>true
 | _,.bool _=>true
 | _,.int _=>true
 | _,.str x=>PyData.strOk x&&decide (x.length≤1000)
 | n+1,.tup xs=>decide (xs.length≤1000)&&xs.all (bc n)
 | n+1,.lst xs=>decide (xs.length≤1000)&&xs.all (bc n)
 | n+1,.tpn xs=>decide (xs.length≤1000)&&xs.all (bc n)
 | _,_=>false
theorem mG (n:Nat):bc n .none=true:=by cases n<;>rfl
theorem mH (n:Nat) (b:Bool):bc n (.bool b)=true:=by cases n<;>rfl
theorem oy (n:Nat) (i:Int):bc n (.int i)=true:=by cases n<;>rfl
theorem fG (n:Nat) (x:Str):bc n (.str x)=(PyData.strOk x&&decide (x.length≤1000)):=by cases n<;>rfl
theorem jB (n:Nat) (xs:List D):bc (n+1) (.tup xs)=(decide (xs.length≤1000)&&xs.all (bc n)):=rfl
theorem lN (n:Nat) (xs:List D):bc (n+1) (.lst xs)=(decide (xs.length≤1000)&&xs.all (bc n)):=rfl
theorem jC (n:Nat) (xs:List D):bc (n+1) (.tpn xs)=(decide (xs.length≤1000)&&xs.all (bc n)):=rfl
theorem hO:∀ {n m:Nat} {d:D},n≤m→bc n d=true→bc m d=true
 | n,m,.none,_,_=>mG m
 | n,m,.bool b,_,_=>mH m b
 | n,m,.int b,_,_=>oy m b
 | n,m,.str x,_,h=>by rw[fG] at *; exact h
 | n+1,m+1,.tup xs,hl,h=>by
  rw[jB] at *
  simp only[Bool.and_eq_true,List.all_eq_true] at *
  exact ⟨h.1,fun x hx=>hO zqO (h.2 x hx)⟩
 | n+1,m+1,.lst xs,hl,h=>by
  rw[lN] at *
  simp only[Bool.and_eq_true,List.all_eq_true] at *
  exact ⟨h.1,fun x hx=>hO zqO (h.2 x hx)⟩
 | n+1,m+1,.tpn xs,hl,h=>by
  rw[jC] at *
  simp only[Bool.and_eq_true,List.all_eq_true] at *
  exact ⟨h.1,fun x hx=>hO zqO (h.2 x hx)⟩
 | n,_,.ty _,_,h=>by cases n<;>cases h
 | n,_,.ro _,_,h=>by cases n<;>cases h
 | n,_,.loc _,_,h=>by cases n<;>cases h
 | n,_,.glo _,_,h=>by cases n<;>cases h
 | n,_,.adr _,_,h=>by cases n<;>cases h
 | n,_,.clo _ _ _ _,_,h=>by cases n<;>cases h
 | n,_,.exn _ _ _ _,_,h=>by cases n<;>cases h
 | 0,_,.tup _,_,h=>by cases h
 | 0,_,.lst _,_,h=>by cases h
 | 0,_,.tpn _,_,h=>by cases h
 | n+1,0,.tup _,hl,_=>by omega
 | n+1,0,.lst _,hl,_=>by omega
 | n+1,0,.tpn _,hl,_=>by omega
theorem cz:∀ {n:Nat} {d:D},bc n d=true→dok n d=true
 | n,.none,_=>oK n
 | n,.bool b,_=>oL n b
 | n,.int b,_=>mq n b
 | n,.str x,h=>by rw[fG] at h; rw[mr]; exact (Bool.and_eq_true_iff.mp h).1
 | n+1,.tup xs,h=>by
  rw[jB] at h
  rw[mt]
  simp only[Bool.and_eq_true,List.all_eq_true] at *
  exact fun x hx=>cz (h.2 x hx)
 | n+1,.lst xs,h=>by
  rw[lN] at h
  rw[kA]
  simp only[Bool.and_eq_true,List.all_eq_true] at *
  exact fun x hx=>cz (h.2 x hx)
 | n+1,.tpn xs,h=>by
  rw[jC] at h
  rw[mu]
  simp only[Bool.and_eq_true,List.all_eq_true] at *
  exact fun x hx=>cz (h.2 x hx)
 | n,.ty _,h=>by cases n<;>cases h
 | n,.ro _,h=>by cases n<;>cases h
 | n,.loc _,h=>by cases n<;>cases h
 | n,.glo _,h=>by cases n<;>cases h
 | n,.adr _,h=>by cases n<;>cases h
 | n,.clo _ _ _ _,h=>by cases n<;>cases h
 | n,.exn _ _ _ _,h=>by cases n<;>cases h
 | 0,.tup _,h=>by cases h
 | 0,.lst _,h=>by cases h
 | 0,.tpn _,h=>by cases h
theorem fT:∀ {n m:Nat} {d:D},n≤m→dok n d=true→dok m d=true
 | n,m,.none,_,_=>oK m
 | n,m,.bool b,_,_=>oL m b
 | n,m,.int b,_,_=>mq m b
 | n,m,.str x,_,h=>by rw[mr] at *; exact h
 | n+1,m+1,.tup xs,hl,h=>by
  rw[mt] at *
  simp only[List.all_eq_true] at *
  exact fun x hx=>fT zqO (h x hx)
 | n+1,m+1,.lst xs,hl,h=>by
  rw[kA] at *
  simp only[List.all_eq_true] at *
  exact fun x hx=>fT zqO (h x hx)
 | n+1,m+1,.tpn xs,hl,h=>by
  rw[mu] at *
  simp only[List.all_eq_true] at *
  exact fun x hx=>fT zqO (h x hx)
 | n,_,.ty _,_,h=>by cases n<;>cases h
 | n,_,.ro _,_,h=>by cases n<;>cases h
 | n,_,.loc _,_,h=>by cases n<;>cases h
 | n,_,.glo _,_,h=>by cases n<;>cases h
 | n,_,.adr _,_,h=>by cases n<;>cases h
 | n,_,.clo _ _ _ _,_,h=>by cases n<;>cases h
 | n,_,.exn _ _ _ _,_,h=>by cases n<;>cases h
 | 0,_,.tup _,_,h=>by cases h
 | 0,_,.lst _,_,h=>by cases h
 | 0,_,.tpn _,_,h=>by cases h
 | n+1,0,.tup _,hl,_=>by omega
 | n+1,0,.lst _,hl,_=>by omega
 | n+1,0,.tpn _,hl,_=>by omega
/-- its kind is known -/
theorem v0 {n:Nat} {d:D} (S:Sto) (h:bc n d=true):∃t,gG S d=some t:=by
 cases d with
 | none=>exact ⟨_,rfl⟩
 | bool b=>exact ⟨_,rfl⟩
 | int b=>exact ⟨_,rfl⟩
 | str b=>exact ⟨_,rfl⟩
 | tup b=>exact ⟨_,rfl⟩
 | tpn b=>exact ⟨_,rfl⟩
 | lst b=>exact ⟨_,rfl⟩
 | _=>cases n<;>cases h
theorem fH {n:Nat} {S:Sto} {x:D} (a b:Int) (h:bc n x=true):aS [x,.int a,.int b] S=.ok (.bool (aW x a b)) S:=by
 obtain ⟨t,ht⟩:=v0 S h
 exact lM a b ht
def dg (x:D) (a b:Int):Bool:=match x with
 | .str s=>cg s a b
 | _=>false
theorem sM {n:Nat} {S:Sto} {x:D} (a b:Int) (h:bc n x=true):bw [x,.int a,.int b] S=.ok (.bool (dg x a b)) S:=by
 cases x with
 | str s=>
  rw[fG] at h
  simp only[Bool.and_eq_true,decide_eq_true_eq] at h
  exact vz a b zqO
 | none=>simp[bw,dF,bJ,dg]
 | bool s=>simp[bw,dF,bJ,dg]
 | int s=>simp[bw,dF,bJ,dg]
 | tup s=>simp[bw,dF,bJ,dg]
 | tpn s=>simp[bw,dF,bJ,dg]
 | lst s=>simp[bw,dF,bJ,dg]
 | _=>cases n<;>cases h
/-- a tuple's items -/
def aj:D→Option (List D)
 | .tup xs=>some xs
 | .tpn xs=>some xs
 | _=>none
theorem aT {x:D} {xs:List D} (h:aj x=some xs):x=.tup xs∨x=.tpn xs:=by
 cases x<;>cases h
 ·exact .inl rfl
 ·exact .inr rfl
theorem bR {n:Nat} {x:D} {xs:List D} (h:bc (n+1) x=true) (e:aj x=some xs):xs.length≤1000∧∀y∈xs,bc n y=true:=by
 rcases aT e with rfl|rfl
 ·rw[jB] at h
  simp only[Bool.and_eq_true,List.all_eq_true,decide_eq_true_eq] at h
  exact h
 ·rw[jC] at h
  simp only[Bool.and_eq_true,List.all_eq_true,decide_eq_true_eq] at h
  exact h
/-- no tuple -/
theorem cA {n:Nat} {x:D} (h:bc n x=true) (e:aj x=none) (S:Sto):bJ S [x,.ty "tuple"]=some (.bool false):=by
 cases x with
 | tup=>cases e
 | tpn=>cases e
 | none=>simp[bJ]
 | bool=>simp[bJ]
 | int=>simp[bJ]
 | str=>simp[bJ]
 | lst=>simp[bJ]
 | _=>cases n<;>cases h
theorem cB {x:D} {xs:List D} (e:aj x=some xs) (S:Sto):bJ S [x,.ty "tuple"]=some (.bool true):=by
 rcases aT e with rfl|rfl<;>simp[bJ]
theorem dP {x:D} {xs:List D} (e:aj x=some xs) (S:Sto) (h:xs.length≤1000):b3 S [x]=some (.int xs.length):=by
 have h2:xs.length≤1000000:=zqO
 rcases aT e with rfl|rfl<;>simp[b3,h2]
theorem cZ {x:D} {xs:List D} (e:aj x=some xs) (S:Sto):dS S x=some (.items xs):=by
 rcases aT e with rfl|rfl<;>simp
/-- the name that a row begins with -/
def bM (x:D):Str:=match aj x with
 | some (.str w::_)=>w
 | _=>⟨#[]⟩
theorem nJ {S:Sto} {w:Str} {l:List Str} (hw:PyData.strOk w=true) (hl:∀x∈l,PyData.strOk x=true):dIn S (.str w) (.lst (l.map D.str))=some (decide (w∈l)):=by
 by_cases h:w∈l
 ·rw[uh (by simp[hw]) (by simpa using hl) ⟨.str w,List.mem_map.mpr ⟨w,h,rfl⟩,zqS⟩,decide_eq_true h]
 ·rw[jY (by simp[hw]) (by simpa using hl) (fun z hz=>?_),decide_eq_false h]
  obtain ⟨u,hu,rfl⟩:=List.mem_map.mp hz
  simp
  rintro rfl
  exact h hu
/-- a row of n,a text first -/
structure RowW (n:Nat) (y:D):Prop where
 ex:∃u r,aj y=some (.str u::r)∧r.length=n∧PyData.strOk u=true
theorem RowW.name {n:Nat} {y:D} (h:RowW n y):PyData.strOk (bM y)=true:=by
 obtain ⟨u,r,e,_,hu⟩:=h.ex
 simp[bM,e,hu]
section
variable {S:Sto} {x A:D} {pre:List D}
theorem f7 {g:MG} {w:En} {m:ME} {Q:List D→Sto→Prop} {E:XV→Sto→Prop} (hl:pre.length≤1000)
  (hx:∀y∈pre,∃e,g y w S=some (e,S)∧m e S=.ok (.str (bM y)) S) (q:∀nl,nl=(pre.map bM).map D.str→Q nl S):Res.wp (dM g b5 m w pre [] S) Q E:=by
 refine bC (f:=id) pre (fun _=>true) (fun y=>.str (bM y)) zqS zqO (fun y hy=>?_) ?_
 ·obtain ⟨e,h1,h2⟩:=hx y hy
  exact ⟨e,h1,rfl,fun _=>h2⟩
 ·rw[dC]
  have e:(pre.map fun y=>D.str (bM y))=(pre.map bM).map D.str:=by rw[List.map_map]; rfl
  exact q _ e
end
def fq (x:D):Bool:=match x with
 | .str _=>true
 | _=>false
theorem lO {n:Nat} {S:Sto} {x:D} (h:bc n x=true):bJ S [x,.ty "str"]=some (.bool (fq x)):=by
 cases x with
 | none=>simp[bJ,fq]
 | bool=>simp[bJ,fq]
 | int=>simp[bJ,fq]
 | str=>simp[bJ,fq]
 | tup=>simp[bJ,fq]
 | tpn=>simp[bJ,fq]
 | lst=>simp[bJ,fq]
 | _=>cases n<;>cases h
/-- the place of the first that can't be -/
def au (f:List D→D→Bool) (lim:Nat):List D→List D→Option Nat
 | _,[]=>none
 | pre,x::r=>if pre.length=lim∨f pre x=false then some pre.length else au f lim (pre++[x]) r
theorem eU (f:List D→D→Bool) (lim:Nat) (pre:List D) (x:D) (r:List D):au f lim pre (x::r)=if pre.length=lim∨f pre x=false then some pre.length else au f lim (pre++[x]) r:=rfl
/-- .. of a tuple that mustn't be empty -/
def ci (f:List D→D→Bool) (lim:Nat) (x:D):Option Nat:=match aj x with
 | some (y::r)=>au f lim [] (y::r)
 | _=>some 0
theorem lP {τ:Type} {ps:List τ} {pre rest:List (τ × Nat)} {x:τ × Nat} (h:pre++x::rest=ps.zipIdx):x.2=(pre.map (·.1)).length∧ps=pre.map (·.1)++x.1::rest.map (·.1):=by
 obtain ⟨a,b⟩:=sK h
 exact ⟨by rw[a,List.length_map],b⟩
section
variable {S:Sto} {x:D}
theorem gj {n:Nat} (h:bc n x=true) (hn:n≤58) (xs:List D) (e:aj x=some xs):dok 60 (view S x)=true∧peq (view S x) (.tup [])=decide (xs=[]):=by
 have hd:=fT (m:=60) zqO (cz h)
 have hv:view S x=.tup xs:=by rcases aT e with rfl|rfl<;>simp
 have hd2:dok 60 (.tup xs)=true:=by
  rcases aT e with rfl|rfl
  ·exact hd
  ·rw[sC] at hd
   rw[sB]
   exact hd
 rw[hv]
 refine ⟨hd2,?_⟩
 cases xs with
 | nil=>simp
 | cons a b=>simp
end
def ac (pre:List D) (x:D):Bool:=match aj x with
 | some [.str w,c]=>cg w 3 3&&(!decide (w∈pre.map bM)&&aW c 10 300)
 | _=>false
theorem ah {S:Sto} {a:D} {xs:List D} (ha:aj a=some xs):view0 S a=a:=by rcases aT ha with rfl|rfl<;>rfl
def gk:D→Int
 | .int i=>i
 | _=>0
def lQ (xs:List D):Bool:=xs.all (fun y=>aW y 0 6)&&decide ((xs.map gk).Pairwise (·<·))
def dQ (x:D):Bool:=match aj x with
 | some (y::r)=>lQ (y::r)
 | _=>false
theorem jZ {y:D} {a b:Int} (h:aW y a b=true):y=.int (gk y)∧a≤gk y∧gk y≤b:=by
 cases y with
 | int i=>
  simp only[aW,Bool.and_eq_true,decide_eq_true_eq] at h
  exact ⟨rfl,h⟩
 | _=>cases h
theorem rO {xs:List D} {a b:Int} (h:xs.all (fun y=>aW y a b)=true):xs=(xs.map gk).map D.int∧∀n∈xs.map gk,a≤n∧n≤b:=by
 rw[List.all_eq_true] at h
 refine ⟨?_,fun n hn=>?_⟩
 ·rw[List.map_map]
  conv=>lhs; rw[←List.map_id xs]
  exact List.map_congr_left fun y hy=>(jZ (h y hy)).1
 ·obtain ⟨y,hy,rfl⟩:=List.mem_map.mp hn
  exact (jZ (h y hy)).2
theorem zip_lt {xs:List Int}:((xs.zip xs.tail).all fun p=>decide (p.1<p.2))=decide (xs.Pairwise (·<·)):=by
 induction xs with
 | nil=>simp
 | cons a xs ih=>
  cases xs with
  | nil=>simp
  | cons b xs=>
   rw[List.tail_cons] at ih
   rw[List.tail_cons,List.zip_cons_cons,List.all_cons,ih,←Bool.decide_and]
   apply decide_eq_decide.mpr
   refine ⟨fun h=>List.pairwise_cons.mpr ⟨fun z hz=>?_,h.2⟩,fun h=>⟨(List.pairwise_cons.mp h).1 b List.mem_cons_self,(List.pairwise_cons.mp h).2⟩⟩
   rcases List.mem_cons.mp hz with rfl|hz
   ·exact h.1
   ·exact Int.lt_trans h.1 ((List.pairwise_cons.mp h.2).1 z hz)
section
variable {S:Sto} {x A:D} {pre:List D}
theorem oz (hx:bc 6 x=true) (hA:aj A=some pre) (hl:pre.length≤1000) (hp:∀y∈pre,RowW 1 y):fC [x,A] S=.ok (.bool (ac pre x)) S:=by
 apply fF
 unfold fC
 apply bO
 unfold lE
 cases hi:aj x with
 | none=>
  have h1:=cA hx hi S
  simp -dsimp [h1]
  simp[ac,hi]
 | some xs=>
  obtain ⟨hn,ht⟩:=bR hx hi
  have h1:=cB hi S
  have h2:=dP hi S hn
  by_cases h3:xs.length=2
  ·match xs,h3 with
   | [w,t],_=>
    have hw:=ht w zqS
    have e0:fIx S x (.int 0)=some w:=by rcases aT hi with rfl|rfl<;>simp
    have e1:fIx S x (.int 1)=some t:=by rcases aT hi with rfl|rfl<;>simp
    have m0:=sM (S:=S) 3 3 hw
    have m1:=fH (S:=S) 10 300 (ht t zqS)
    have hA':=cZ hA S
    cases w with
    | str u=>
     have hu:PyData.strOk u=true:=by rw[fG] at hw; exact (Bool.and_eq_true_iff.mp hw).1
     have hk:ac pre x=(cg u 3 3&&(!decide (u∈pre.map bM)&&aW t 10 300)):=by simp only[ac,hi]
     cases hwd:cg u 3 3 with
     | false=>
      rw[hwd] at hk
      simp -dsimp [h1,h2,e0,m0,dg,hwd]
      simp[hk]
     | true=>
      simp -dsimp [h1,h2,e0,m0,dg,hwd,hA']
      refine f7 hl (fun y hy=>?_) ?_
      ·obtain ⟨v,r,e,hr,_⟩:=(hp y hy).ex
       match r,hr with
       | [a],_=>
        have hn:bM y=v:=by simp[bM,e]
        rw[hn]
        rcases aT e with rfl|rfl<;>exact ⟨_,rfl,rfl⟩
      ·intro nl enl
       have hin:dIn S (.str u) (.lst nl)=some (decide (u∈pre.map bM)):=by
        rw[enl]
        exact nJ hu fun z hz=>by
         obtain ⟨y,hy,rfl⟩:=List.mem_map.mp hz
         exact (hp y hy).name
       cases hd:decide (u∈pre.map bM) with
       | true=>
        rw[hd] at hin
        rw[hwd,hd] at hk
        simp -dsimp [hin,e0]
        simp[hk]
       | false=>
        rw[hd] at hin
        rw[hwd,hd] at hk
        simp -dsimp [hin,e0,e1,m1]
        simp[hk]
    | _=>
     simp -dsimp [h1,h2,e0,m0,dg]
     simp[ac,hi]
  ·have h4:¬((xs.length:Int)=2):=zqO
   simp -dsimp [h1,h2,h4]
   have:ac pre x=false:=by
    unfold ac
    rw[hi]
    split
    ·rename_i e
     cases e
     simp at h3
    ·rfl
   simp[this]
theorem pA (hx:bc 6 x=true):fB [x] S=.ok (.bool (dQ x)) S:=by
 apply fF
 unfold fB
 apply bO
 unfold lD
 cases hi:aj x with
 | none=>
  have h1:=cA hx hi S
  simp -dsimp [h1]
  simp[dQ,hi]
 | some xs=>
  obtain ⟨hn,ht⟩:=bR hx hi
  have h1:=cB hi S
  obtain ⟨h2,h3⟩:=gj (S:=S) hx zqC xs hi
  cases hxe:xs with
  | nil=>
   subst hxe
   simp -dsimp [h1,h2,h3]
   simp[dQ,hi]
  | cons y0 r0=>
   have hk:dQ x=lQ xs:=by simp only[dQ,hi,hxe]
   have hne:decide (xs=[])=false:=by rw[hxe]; simp
   rw[hne] at h3
   clear hxe
   have hX:=cZ hi S
   simp -dsimp [h1,h2,h3,hX]
   refine bC (f:=id) xs (fun _=>true) (fun y=>.bool (aW y 0 6)) zqS zqO (fun y hy=>⟨_,rfl,rfl,fun _=>by simp[fH (S:=S) 0 6 (ht y hy)]⟩) ?_
   rw[dC]
   cases ha:xs.all (fun y=>aW y 0 6) with
   | false=>
    have hk:dQ x=false:=by rw[hk]; unfold lQ; rw[ha]; rfl
    simp -dsimp [ha]
    simp[hk]
   | true=>
    obtain ⟨e1,e2⟩:=rO ha
    have hk:dQ x=decide ((xs.map gk).Pairwise (·<·)):=by rw[hk]; unfold lQ; rw[ha]; rfl
    obtain ⟨d',c1,c2⟩:=jU (aT hi) (some 1) none
    have h5:vt d'=.tup xs.tail:=by rw[←cut_1]; rcases c2 with rfl|rfl<;>rfl
    have hv0:view0 S x=x:=by rcases aT hi with rfl|rfl<;>rfl
    have hVx:vt x=.tup xs:=by rcases aT hi with rfl|rfl<;>rfl
    have hfa:mX S [.lst (xs.map fun y=>.bool (aW y 0 6))]=some (.bool true):=by rw[uf,ha]
    generalize (xs.map fun y=>D.bool (aW y 0 6))=bl at hfa ⊢
    rw[hk]
    generalize hns:xs.map gk=ns at *
    subst e1
    simp -dsimp [hfa,c1,hv0,hX,h5,hVx,ug]
    refine bC (f:=fun p:Int × Int=>D.tup [.int p.1,.int p.2]) (ns.zip ns.tail) (fun _=>true) (fun p=>.bool (decide (p.1<p.2))) rfl (by simp at hn ⊢; omega) (fun x hx=>⟨_,rfl,rfl,fun _=>by simp⟩) ?_
    rw[dC]
    simp -dsimp [zip_lt]
end
/-- the number that a row begins with -/
def fJ (x:D):Int:=match aj x with
 | some (.int i::_)=>i
 | _=>0
structure RowN (y:D):Prop where
 ex:∃i r,aj y=some (.int i::r)∧r.length=6
def cC (names:List Str):D→Bool
 | .str w=>decide (w∈names)
 | _=>false
def jD:D→D→Bool
 | .str u,.str v=>decide (u=v)
 | _,_=>false
def ay (names:List Str) (pre:List D) (x:D):Bool:=match aj x with
 | some [n,s,g,o,l,d,f]=>(aW n 1 9999&&!decide (gk n∈pre.map fJ))&&((cC names s&&cC names g)&&(!jD s g&&(dQ d&&(aW o 0 1439&&(aW l 20 900&&aW f 1 100000)))))
 | _=>false
theorem rQ {S:Sto} {i:Int} {l:List Int}:dIn S (.int i) (.lst (l.map D.int))=some (decide (i∈l)):=by
 by_cases h:i∈l
 ·rw[uh zqS zqS ⟨.int i,List.mem_map.mpr ⟨i,h,rfl⟩,zqS⟩,decide_eq_true h]
 ·rw[jY zqS zqS (fun z hz=>?_),decide_eq_false h]
  obtain ⟨u,hu,rfl⟩:=List.mem_map.mp hz
  simp
  rintro rfl
  exact h hu
theorem pB {S:Sto} {d:D} {l:List Str} {n:Nat} (hd:bc n d=true) (hn:n≤59) (hl:∀x∈l,PyData.strOk x=true):dIn S d (.lst (l.map D.str))=some (cC l d):=by
 have hk:dok 60 d=true:=fT zqO (cz hd)
 have hno:(∀u,d≠.str u)→dIn S d (.lst (l.map D.str))=some false:=fun hne=>by
  rw[jY hk (by simpa using hl) (fun z hz=>?_)]
  obtain ⟨u,hu,rfl⟩:=List.mem_map.mp hz
  cases d with
  | str w=>exact absurd rfl (hne w)
  | none=>first|simp|rfl|(unfold peq; rfl)
  | bool=>first|simp|rfl|(unfold peq; rfl)
  | int=>first|simp|rfl|(unfold peq; rfl)
  | tup=>first|simp|rfl|(unfold peq; rfl)
  | tpn=>first|simp|rfl|(unfold peq; rfl)
  | lst=>first|simp|rfl|(unfold peq; rfl)
  | _=>cases n<;>cases hd
 cases d with
 | str w=>exact nJ (by simpa using hk) hl
 | _=>exact hno fun u e=>by cases e
theorem mI {S:Sto} {pre:List D} {g:MG} {w:En} {m:ME} {Q:List D→Sto→Prop} {E:XV→Sto→Prop} (hl:pre.length≤1000)
  (hx:∀y∈pre,∃e,g y w S=some (e,S)∧m e S=.ok (.int (fJ y)) S) (q:∀nl,nl=(pre.map fJ).map D.int→Q nl S):Res.wp (dM g b5 m w pre [] S) Q E:=by
 refine bC (f:=id) pre (fun _=>true) (fun y=>.int (fJ y)) zqS zqO (fun y hy=>?_) ?_
 ·obtain ⟨e,h1,h2⟩:=hx y hy
  exact ⟨e,h1,rfl,fun _=>h2⟩
 ·rw[dC]
  have e:(pre.map fun y=>D.int (fJ y))=(pre.map fJ).map D.int:=by rw[List.map_map]; rfl
  exact q _ e
section
variable {S:Sto} {x A:D} {pre:List D} {names:List Str}
theorem sN (hx:bc 7 x=true) (hA:aj A=some pre) (hl:pre.length≤1000) (hp:∀y∈pre,RowN y) (hw:∀y∈names,PyData.strOk y=true) :
  fh [x,A,.lst (names.map D.str)] S=.ok (.bool (ay names pre x)) S:=by
 have hW:∀ {n:Nat} {d:D},bc n d=true→n≤59→dIn S d (.lst (names.map D.str))=some (cC names d):=fun hd hn=>pB hd hn hw
 obtain ⟨wl,hwl⟩:∃wl,wl=names.map D.str:=⟨_,rfl⟩
 rw[←hwl] at hW ⊢
 clear hwl
 apply fF
 unfold fh
 apply bO
 unfold oX
 cases hi:aj x with
 | none=>
  have h1:=cA hx hi S
  simp -dsimp [h1]
  simp[ay,hi]
 | some xs=>
  obtain ⟨hn,ht⟩:=bR hx hi
  have h1:=cB hi S
  have h2:=dP hi S hn
  by_cases h3:xs.length=7
  ·match xs,h3 with
   | [n,s,g,o,l,d,f],_=>
    have m0:=fH (S:=S) 1 9999 (ht n zqS)
    have m1:=fH (S:=S) 0 1439 (ht o zqS)
    have m2:=fH (S:=S) 20 900 (ht l zqS)
    have m3:=fH (S:=S) 1 100000 (ht f zqS)
    have md:=pA (S:=S) (ht d zqS)
    have ws:=hW (ht s zqS) zqO
    have wg:=hW (ht g zqS) zqO
    have is:=lO (S:=S) (ht s zqS)
    have ig:=lO (S:=S) (ht g zqS)
    have ts:=ht s zqS
    have tg:=ht g zqS
    have hA':=cZ hA S
    have hV:vt x=.tup [n,s,g,o,l,d,f]:=by rcases aT hi with rfl|rfl<;>rfl
    have hv0:view0 S x=x:=ah hi
    have hk:ay names pre x=((aW n 1 9999&&!decide (gk n∈pre.map fJ))&&((cC names s&&cC names g)&&(!jD s g&&(dQ d&&(aW o 0 1439&&(aW l 20 900&&aW f 1 100000)))))):=by simp only[ay,hi]
    clear ht
    cases h5:aW n 1 9999 with
    | false=>
     rw[h5] at hk
     simp -dsimp [h1,h2,hV,hv0,m0,h5]
     simp[hk]
    | true=>
     obtain ⟨en,_⟩:=jZ h5
     generalize gk n=ni at *
     subst en
     simp -dsimp [h1,h2,hV,hv0,m0,h5,hA']
     refine mI hl (fun y hy=>?_) ?_
     ·obtain ⟨v,r,e,hr⟩:=(hp y hy).ex
      have hn:fJ y=v:=by simp[fJ,e]
      rw[hn]
      refine ⟨_,rfl,?_⟩
      rcases aT e with rfl|rfl<;>simp
     ·intro nl enl
      have hin:dIn S (.int ni) (.lst nl)=some (decide (ni∈pre.map fJ)):=by rw[enl]; exact rQ
      cases hd:decide (ni∈pre.map fJ) with
      | true=>
       rw[hd] at hin
       rw[hd] at hk
       simp -dsimp [hin]
       simp[hk]
      | false=>
       rw[hd] at hin
       rw[h5,hd] at hk
       cases s with
       | str u=>
        cases g with
        | str v=>
         simp only[fq] at is ig
         have hpe:peq (.str u) (.str v)=decide (u=v):=by simp
         have du:dok 60 (.str u)=true:=fT zqO (cz ts)
         have dv:dok 60 (.str v)=true:=fT zqO (cz tg)
         have hk:ay names pre x=((cC names (.str u)&&cC names (.str v))&&(!decide (u=v)&&(dQ d&&(aW o 0 1439&&(aW l 20 900&&aW f 1 100000))))):=by rw[hk]; simp[jD]
         generalize cC names (.str u)=bu at *
         generalize cC names (.str v)=bv at *
         generalize dQ d=bd at *
         generalize aW o 0 1439=bo at *
         generalize aW l 20 900=bl at *
         generalize aW f 1 100000=bf at *
         rw[hk]
         by_cases huv:u=v
         ·subst huv
          simp -dsimp [hin,is,ig,du,dv]
          all_goals (cases bu<;>cases bv<;>rfl)
         ·cases bu
          ·simp -dsimp [hin,is,ig,du,dv,huv,ws]
          ·cases bv
           ·simp -dsimp [hin,is,ig,du,dv,huv,ws,wg]
           ·cases bd
            ·simp -dsimp [hin,is,ig,du,dv,huv,ws,wg,md]
            ·cases bo<;>cases bl<;>simp -dsimp [hin,is,ig,du,dv,huv,ws,wg,md,m1,m2,m3]
        | _=>
         simp only[fq] at is ig
         simp -dsimp [hin,is,ig]
         all_goals simp[hk,cC]
       | _=>
        simp only[fq] at is
        simp -dsimp [hin,is]
        all_goals simp[hk,cC]
  ·have h4:¬((xs.length:Int)=7):=zqO
   simp -dsimp [h1,h2,h4]
   have:ay names pre x=false:=by
    unfold ay
    rw[hi]
    split
    ·rename_i e
     cases e
     simp at h3
    ·rfl
   simp[this]
end
/-- the part and the number of the first that can't be -/
def bB (x:D):Option (Int × Int):=match aj x with
 | some [p,l]=>match ci ac 12 p with
  | some k=>some (0,(k:Nat))
  | none=>match aj l with
   | none=>some (1,0)
   | some ls=>match au (ay (((aj p).getD []).map bM)) 60 [] ls with
    | some k=>some (1,(k:Nat))
    | none=>none
 | _=>some (-1,0)
theorem jt {pre:List D} {x:D} (h:ac pre x=true) (ht:bc 6 x=true):RowW 1 x:=by
 unfold ac at h
 split at h
 ·rename_i w t hi
  have hw:=(bR ht hi).2 (.str w) zqS
  rw[fG] at hw
  exact ⟨w,[t],hi,rfl,(Bool.and_eq_true_iff.mp hw).1⟩
 ·cases h
theorem ja {names:List Str} {pre:List D} {x:D} (h:ay names pre x=true):RowN x:=by
 unfold ay at h
 split at h
 ·rename_i n s g o l d f hi
  simp only[Bool.and_eq_true] at h
  obtain ⟨e,_⟩:=jZ h.1.1
  exact ⟨gk n,[s,g,o,l,d,f],by rw[hi,←e],rfl⟩
 ·cases h
section
variable {S:Sto} {x:D}
theorem pC (hx:bc 8 x=true):Res.wp (fD [x] S) (fun a S'=>bB x=none∧a=.none∧S'=S) (fun e S'=>∃p k:Int,bB x=some (p,k)∧e=⟨"BadNet",[("number",.int k),("part",.int p)]⟩∧S'=S):=by
 unfold fD
 apply bO
 unfold lF
 cases hi:aj x with
 | none=>
  have h1:=cA hx hi S
  simp -dsimp [h1]
  exact ⟨-1,0,by simp[bB,hi],rfl,rfl⟩
 | some xs=>
  obtain ⟨hn,ht⟩:=bR hx hi
  have h1:=cB hi S
  have h2:=dP hi S hn
  by_cases h3:xs.length≠2
  ·have h4:¬((xs.length:Int)=2):=zqO
   simp -dsimp [h1,h2,h4]
   refine ⟨-1,0,?_,rfl,rfl⟩
   unfold bB
   rw[hi]
   split
   ·rename_i e
    cases e
    simp at h3
   ·rfl
  have h3:xs.length=2:=Decidable.not_not.mp h3
  match xs,h3 with
  | [p,l],_=>
   have hp:=ht p zqS
   have hl:=ht l zqS
   clear ht
   have hV:vt x=.tup [p,l]:=by rcases aT hi with rfl|rfl<;>rfl
   have hv0:view0 S x=x:=ah hi
   cases hpi:aj p with
   | none=>
    have g1:=cA hp hpi S
    simp -dsimp [h1,h2,hV,hv0,g1]
    exact ⟨0,0,by simp[bB,hi,ci,hpi],rfl,rfl⟩
   | some ps=>
   obtain ⟨pn,pt⟩:=bR hp hpi
   have g1:=cB hpi S
   obtain ⟨g2,g3⟩:=gj (S:=S) hp zqC ps hpi
   cases hpe:ps with
   | nil=>
    subst hpe
    simp -dsimp [h1,h2,hV,hv0,g1,g2,g3]
    exact ⟨0,0,by simp[bB,hi,ci,hpi],rfl,rfl⟩
   | cons y r=>
   have hX:=cZ hpi S
   have hVp:vt p=.tup ps:=by rcases aT hpi with rfl|rfl<;>rfl
   have hv0p:∀S,view0 S p=p:=fun S=>ah hpi
   have hbad:ci ac 12 p=au ac 12 [] ps:=by subst hpe; simp[ci,hpi]
   have hne:decide (ps=[])=false:=by rw[hpe]; simp
   rw[hne] at g3
   clear hpe
   simp -dsimp [h1,h2,hV,hv0,g1,g2,g3,hX,hVp,hv0p]
   have em:=k8 (fun z:D=>z) ps 0
   rw[List.map_id'] at em
   rw[em]
   refine fw (f:=fun p:D × Nat=>D.tup [.int (p.2:Nat),p.1]) ps.zipIdx (fun pre rest env S'=>S'=S∧(∃x3 x4,env=[some x,some p,some l,x3,x4,none,none,none,none])∧au ac 12 [] ps=au ac 12 (pre.map (·.1)) (rest.map (·.1))∧∀w∈pre.map (·.1),RowW 1 w) rfl ⟨rfl,⟨_,_,rfl⟩,?_,zqS⟩ ?_ ?_
   ·have:ps.zipIdx.map (·.1)=ps:=by simp
    rw[this]
    rfl
   ·rintro pre z rest env S' hpre ⟨rfl,⟨x3,x4,rfl⟩,hb,hrow⟩
    obtain ⟨e1,e2⟩:=lP hpre
    refine ⟨_,rfl,?_⟩
    have hpl:(pre.map (·.1)).length≤1000:=by
     have:=congrArg List.length e2
     simp at this ⊢
     omega
    have hz:=pt z.1 (by rw[e2]; simp)
    obtain ⟨d',c1,c2⟩:=jU (aT hpi) none (some (z.2:Nat))
    have hq:ps.take z.2=pre.map (·.1):=by rw[e1,e2,List.take_left' rfl]
    rw[fz,hq] at c2
    have hd':aj d'=some (pre.map (·.1)):=by rcases c2 with rfl|rfl<;>rfl
    have hv:jw p none (some (z.2:Nat))=some d':=c1
    have hc:=oz (S:=S') hz hd' hpl hrow
    rw[List.map_cons,eU,←e1] at hb
    by_cases h5:z.2=12
    ·have h5':((z.2:Nat):Int)=12:=zqO
     simp -dsimp [h5']
     rw[if_pos (.inl h5)] at hb
     exact ⟨0,(z.2:Nat),by simp only[bB,hi,hbad,hb],h5'.symm,rfl⟩
    ·have h5':¬(((z.2:Nat):Int)=12):=zqO
     cases hk:ac (pre.map (·.1)) z.1 with
     | false=>
      rw[hk] at hc hb
      rw[if_pos (.inr rfl)] at hb
      simp -dsimp [h5',hv,hv0p,hc]
      exact ⟨0,(z.2:Nat),by simp only[bB,hi,hbad,hb],rfl,rfl⟩
     | true=>
      rw[hk] at hc hb
      rw[if_neg (by simp[h5])] at hb
      simp -dsimp [h5',hv,hv0p,hc]
      refine ⟨by simpa using hb,?_⟩
      rintro w (⟨a,hw⟩|rfl)
      ·exact hrow w (List.mem_map.mpr ⟨_,hw,rfl⟩)
      ·exact jt hk hz
   ·rintro env S' ⟨rfl,⟨x3,x4,rfl⟩,hb,hrow⟩
    have hb:au ac 12 [] ps=none:=hb
    have hrow:∀w∈ps,RowW 1 w:=by simpa using hrow
    cases hli:aj l with
    | none=>
     have k1:=cA hl hli S'
     simp -dsimp [k1]
     exact ⟨1,0,by simp only[bB,hi,hbad,hb,hli],rfl,rfl⟩
    | some ls=>
    obtain ⟨ln,lt⟩:=bR hl hli
    have k1:=cB hli S'
    have kX:=cZ hli S'
    have kV:vt l=.tup ls:=by rcases aT hli with rfl|rfl<;>rfl
    have kv0:∀S,view0 S l=l:=fun S=>ah hli
    simp -dsimp [k1,hX]
    refine f7 zqO (fun y hy=>?_) ?_
    ·obtain ⟨v,r,e,hr,_⟩:=(hrow y hy).ex
     match r,hr with
     | [a],_=>
      have hn:bM y=v:=by simp[bM,e]
      rw[hn]
      rcases aT e with rfl|rfl<;>exact ⟨_,rfl,rfl⟩
    ·intro nl enl
     have hws:∀w∈ps.map bM,PyData.strOk w=true:=fun w hw=>by
      obtain ⟨y,hy,rfl⟩:=List.mem_map.mp hw
      exact (hrow y hy).name
     have hnm:bB x=match au (ay (ps.map bM)) 60 [] ls with
       | some k=>some (1,((k:Nat):Int))
       | none=>none:=by simp only[bB,hi,hbad,hb,hli,hpi,Option.getD_some]
     simp -dsimp [kX,kV,kv0]
     have em:=k8 (fun z:D=>z) ls 0
     rw[List.map_id'] at em
     rw[em]
     refine fw (f:=fun p:D × Nat=>D.tup [.int (p.2:Nat),p.1]) ls.zipIdx (fun pre rest env S''=>S''=S'∧(∃x3 x4 x6,env=[some x,some p,some l,x3,x4,some (.lst nl),x6,none,none])∧au (ay (ps.map bM)) 60 [] ls=au (ay (ps.map bM)) 60 (pre.map (·.1)) (rest.map (·.1))∧∀w∈pre.map (·.1),RowN w) rfl ⟨rfl,⟨_,_,_,rfl⟩,?_,zqS⟩ ?_ ?_
     ·have:ls.zipIdx.map (·.1)=ls:=by simp
      rw[this]
      rfl
     ·rintro pre z rest env S'' hpre ⟨rfl,⟨x3,x4,x6,rfl⟩,hb2,hrow2⟩
      obtain ⟨e1,e2⟩:=lP hpre
      refine ⟨_,rfl,?_⟩
      have hpl:(pre.map (·.1)).length≤1000:=by
       have:=congrArg List.length e2
       simp at this ⊢
       omega
      have hz:=lt z.1 (by rw[e2]; simp)
      obtain ⟨d',c1,c2⟩:=jU (aT hli) none (some (z.2:Nat))
      have hq:ls.take z.2=pre.map (·.1):=by rw[e1,e2,List.take_left' rfl]
      rw[fz,hq] at c2
      have hd':aj d'=some (pre.map (·.1)):=by rcases c2 with rfl|rfl<;>rfl
      have hv:jw l none (some (z.2:Nat))=some d':=c1
      have hc:fh [z.1,d',.lst nl] S''=.ok (.bool (ay (ps.map bM) (pre.map (·.1)) z.1)) S'':=by rw[enl]; exact sN (S:=S'') (hO zqO hz) hd' hpl hrow2 hws
      rw[List.map_cons,eU,←e1] at hb2
      by_cases h5:z.2=60
      ·have h5':((z.2:Nat):Int)=60:=zqO
       simp -dsimp [h5']
       rw[if_pos (.inl h5)] at hb2
       exact ⟨1,(z.2:Nat),by rw[hnm,hb2],h5'.symm,rfl⟩
      ·have h5':¬(((z.2:Nat):Int)=60):=zqO
       cases hk:ay (ps.map bM) (pre.map (·.1)) z.1 with
       | false=>
        rw[hk] at hc hb2
        rw[if_pos (.inr rfl)] at hb2
        simp -dsimp [h5',hv,kv0,hc]
        exact ⟨1,(z.2:Nat),by rw[hnm,hb2],rfl,rfl⟩
       | true=>
        rw[hk] at hc hb2
        rw[if_neg (by simp[h5])] at hb2
        simp -dsimp [h5',hv,kv0,hc]
        refine ⟨by simpa using hb2,?_⟩
        rintro w (⟨a,hw⟩|rfl)
        ·exact hrow2 w (List.mem_map.mpr ⟨_,hw,rfl⟩)
        ·exact ja hk
     ·rintro env S'' ⟨rfl,_,hb2,_⟩
      exact ⟨by rw[hnm,hb2]; rfl,rfl,rfl⟩
end
@[simp] theorem wT (m:ME) (env:En) (S:Sto):iu m env S=(m env S).bind fun d S=>match view S d with
 | .tup ds=>match ez ds with
  | some ns=>if ns.length≤1000∧(cj ns).length≤60 then .ok (.lst ((cj ns).map .int)) S else .stuck
  | none=>.stuck
 | _=>.stuck:=rfl
section
variable {Q:D→Sto→Prop} {E:XV→Sto→Prop}
@[simp ↓] theorem wU (m:ME) (env:En) (S:Sto):Res.wp (iu m env S) Q E=Res.wp ((m env S).bind fun d S=>match view S d with
 | .tup ds=>match ez ds with
  | some ns=>if ns.length≤1000∧(cj ns).length≤60 then .ok (.lst ((cj ns).map .int)) S else .stuck
  | none=>.stuck
 | _=>.stuck) Q E:=rfl
end
section
variable {S:Sto} {x A:D} {pre:List D} {names:List Str}
theorem eY {n:Nat} (a b:Int) (h:bc n x=true):b0 [x,.int a,.int b] S=.ok (.bool (aW x a b)) S:=fH (S:=S) a b h
theorem j3 (hx:bc 6 x=true) (hA:aj A=some pre) (hl:pre.length≤1000) (hp:∀y∈pre,RowW 1 y):cX [x,A] S=.ok (.bool (ac pre x)) S:=by
 apply fF
 unfold cX
 apply bO
 unfold gh
 cases hi:aj x with
 | none=>
  have h1:=cA hx hi S
  simp -dsimp [h1]
  simp[ac,hi]
 | some xs=>
  obtain ⟨hn,ht⟩:=bR hx hi
  have h1:=cB hi S
  have h2:=dP hi S hn
  by_cases h3:xs.length=2
  ·match xs,h3 with
   | [w,t],_=>
    have hw:=ht w zqS
    have e0:fIx S x (.int 0)=some w:=by rcases aT hi with rfl|rfl<;>simp
    have e1:fIx S x (.int 1)=some t:=by rcases aT hi with rfl|rfl<;>simp
    have is:=lO (S:=S) hw
    have m1:=eY (S:=S) 10 300 (ht t zqS)
    have hA':=cZ hA S
    cases w with
    | str u=>
     simp only[fq] at is
     rw[fG] at hw
     simp only[Bool.and_eq_true,decide_eq_true_eq] at hw
     obtain ⟨hu,hul⟩:=hw
     have hlu:b3 S [.str u]=some (.int u.length):=by simp[b3]; omega
     have hiu:dS S (.str u)=some (.items (u.cps.toList.map fun c=>D.str ⟨#[c]⟩)):=by simp[dS,gA]
     have hk:ac pre x=(cg u 3 3&&(!decide (u∈pre.map bM)&&aW t 10 300)):=by simp only[ac,hi]
     by_cases h5:(u.length:Int)=3
     ·simp -dsimp [h1,h2,e0,is,hlu,h5,hiu]
      refine bC (f:=fun c=>D.str ⟨#[c]⟩) u.cps.toList (fun c=>!decide (c∈cf)) (fun c=>.str ⟨#[c]⟩) rfl (by simp[Str.length] at hul ⊢; omega) (fun c hc=>⟨[some x,some A,some (.str ⟨#[c]⟩),none],rfl,?_,fun _=>rfl⟩) ?_
      ·simp[eh,dIn,cf]
      ·have hwd:cg u 3 3=decide ((u.cps.toList.filter fun c=>!decide (c∈cf))=[]):=by
        rw[Bool.eq_iff_iff,decide_eq_true_eq,List.filter_eq_nil_iff]
        unfold cg
        have q1:(3:Int)≤u.length:=zqO
        have q2:(u.length:Int)≤3:=zqO
        simp only[q1,q2,decide_true,Bool.true_and,List.all_eq_true,decide_eq_true_eq,Bool.not_eq_true',decide_eq_false_iff_not,Decidable.not_not]
       have e3:((u.cps.toList.filter fun c=>!decide (c∈cf)).map fun c=>D.str ⟨#[c]⟩).all (dok 59)=true:=by
        rw[List.all_eq_true]
        intro z hz
        obtain ⟨c,hc,rfl⟩:=List.mem_map.mp hz
        have hc:=(List.mem_filter.mp hc).1
        rw[mr]
        unfold PyData.strOk at hu ⊢
        rw[Array.all_eq_true'] at hu
        have:=hu c (by simpa using hc)
        simpa using this
       have e4:peq (.lst ((u.cps.toList.filter fun c=>!decide (c∈cf)).map fun c=>D.str ⟨#[c]⟩)) (.lst [])=decide ((u.cps.toList.filter fun c=>!decide (c∈cf))=[]):=by
        cases (u.cps.toList.filter fun c=>!decide (c∈cf))<;>simp
       generalize ((u.cps.toList.filter fun c=>!decide (c∈cf)).map fun c=>D.str ⟨#[c]⟩)=ll at *
       rw[hwd] at hk
       generalize decide ((u.cps.toList.filter fun c=>!decide (c∈cf))=[])=bb at *
       cases bb with
       | false=>
        simp -dsimp [e3,e4]
        simp[hk]
       | true=>
        simp -dsimp [e3,e4,e0,hA']
        refine f7 hl (fun y hy=>?_) ?_
        ·obtain ⟨v,r,e,hr,_⟩:=(hp y hy).ex
         have hn:bM y=v:=by simp[bM,e]
         rw[hn]
         refine ⟨_,rfl,?_⟩
         rcases aT e with rfl|rfl<;>simp
        ·intro nl enl
         have hin:dIn S (.str u) (.lst nl)=some (decide (u∈pre.map bM)):=by
          rw[enl]
          exact nJ hu fun z hz=>by
           obtain ⟨y,hy,rfl⟩:=List.mem_map.mp hz
           exact (hp y hy).name
         cases hd:decide (u∈pre.map bM) with
         | true=>
          rw[hd] at hin hk
          simp -dsimp [hin,e0]
          simp[hk]
         | false=>
          rw[hd] at hin hk
          simp -dsimp [hin,e0,e1,m1]
          simp[hk]
     ·simp -dsimp [h1,h2,e0,is,hlu,h5]
      have hwd:cg u 3 3=false:=by
       unfold cg
       by_cases q1:(3:Int)≤u.length
       ·have q2:¬(u.length:Int)≤3:=zqO
        simp[q2]
       ·simp[q1]
      simp[hk,hwd]
    | _=>
     simp only[fq] at is
     simp -dsimp [h1,h2,e0,is]
     simp[ac,hi]
  ·have h4:¬((xs.length:Int)=2):=zqO
   simp -dsimp [h1,h2,h4]
   have:ac pre x=false:=by
    unfold ac
    rw[hi]
    split
    ·rename_i e
     cases e
     simp at h3
    ·rfl
   simp[this]
end
theorem qU {n:Nat} {pre rest:List Nat} {i:Nat} (h:pre++i::rest=List.range n):i=pre.length∧pre.length<n:=by
 have h1:=congrArg List.length h
 have h2:=congrArg (fun l=>l[pre.length]?) h
 simp at h1 h2
 have:pre.length<n:=zqO
 rw[List.getElem?_range this] at h2
 exact ⟨by simpa using h2,this⟩
theorem cD {S:Sto} {x:D} {xs:List D} (e:aj x=some xs) {i:Nat} (h:i<xs.length):fIx S x (.int (i:Nat))=some xs[i]:=by
 rcases aT e with rfl|rfl<;>simp[vi h,h]
theorem jb {xs:List D} {i:Nat} (h:i<xs.length):xs.take (i+1)=xs.take i++[xs[i]]:=by
 rw[List.take_add_one,List.getElem?_eq_getElem h]
 rfl
theorem pD {f:List D→D→Bool} {lim:Nat} {xs:List D} {i:Nat} (h:i<xs.length) (hb:au f lim [] xs=au f lim (xs.take i) (xs.drop i)) :
  au f lim [] xs=if i=lim∨f (xs.take i) xs[i]=false then some i else au f lim (xs.take (i+1)) (xs.drop (i+1)):=by
 rw[hb,List.drop_eq_getElem_cons h,eU,jb h,List.length_take,Nat.min_eq_left zqO]
theorem gp:∀xs:List Int,ez (xs.map D.int)=some xs
 | []=>rfl
 | x::xs=>by rw[List.map_cons,ez,gp xs]; rfl
theorem mJ {ll:List D} {n:Nat} (h:∀y∈ll,bc n y=true) (hn:n≤58):dok 60 (.lst ll)=true∧peq (.lst ll) (.lst [])=decide (ll=[]):=by
 refine ⟨?_,?_⟩
 ·rw[show (60:Nat)=59+1 from rfl,kA,List.all_eq_true]
  exact fun y hy=>fT zqO (cz (h y hy))
 ·cases ll<;>simp
theorem nodays {ds:List D}:decide (ds.filter (fun y=>!aW y 0 6)=[])=ds.all fun y=>aW y 0 6:=by
 rw[Bool.eq_iff_iff,decide_eq_true_eq,List.filter_eq_nil_iff,List.all_eq_true]
 simp
section
variable {S:Sto} {x A:D} {pre:List D} {names:List Str}
theorem lg (hx:bc 7 x=true) (hA:aj A=some pre) (hl:pre.length≤1000) (hp:∀y∈pre,RowN y) (hw:∀y∈names,PyData.strOk y=true) :
  cb [x,A,.lst (names.map D.str)] S=.ok (.bool (ay names pre x)) S:=by
 have hW:∀ {n:Nat} {d:D},bc n d=true→n≤59→dIn S d (.lst (names.map D.str))=some (cC names d):=fun hd hn=>pB hd hn hw
 obtain ⟨wl,hwl⟩:∃wl,wl=names.map D.str:=⟨_,rfl⟩
 rw[←hwl] at hW ⊢
 clear hwl
 apply fF
 unfold cb
 apply bO
 unfold i7
 cases hi:aj x with
 | none=>
  have h1:=cA hx hi S
  simp -dsimp [h1]
  simp[ay,hi]
 | some xs=>
  obtain ⟨hn,ht⟩:=bR hx hi
  have h1:=cB hi S
  have h2:=dP hi S hn
  by_cases h3:xs.length=7
  ·match xs,h3 with
   | [n,s,g,o,l,d,f],_=>
    have m0:=eY (S:=S) 1 9999 (ht n zqS)
    have m1:=eY (S:=S) 0 1439 (ht o zqS)
    have m2:=eY (S:=S) 20 900 (ht l zqS)
    have m3:=eY (S:=S) 1 100000 (ht f zqS)
    have ts:=ht s zqS
    have tg:=ht g zqS
    have td:=ht d zqS
    have ws:=hW ts zqO
    have wg:=hW tg zqO
    have hA':=cZ hA S
    have i0:fIx S x (.int 0)=some n:=cD (S:=S) hi (i:=0) zqS
    have i1:fIx S x (.int 1)=some s:=cD (S:=S) hi (i:=1) zqS
    have i2:fIx S x (.int 2)=some g:=cD (S:=S) hi (i:=2) zqS
    have i3:fIx S x (.int 3)=some o:=cD (S:=S) hi (i:=3) zqS
    have i4:fIx S x (.int 4)=some l:=cD (S:=S) hi (i:=4) zqS
    have i5:fIx S x (.int 5)=some d:=cD (S:=S) hi (i:=5) zqS
    have i6:fIx S x (.int 6)=some f:=cD (S:=S) hi (i:=6) zqS
    have hv0:view0 S x=x:=ah hi
    obtain ⟨c,ec,ic⟩:=jU (aT hi) (some 1) (some 3)
    have icc:aj c=some [s,g]:=by rcases ic with rfl|rfl<;>rfl
    have hC:=cZ icc S
    have hk:ay names pre x=((aW n 1 9999&&!decide (gk n∈pre.map fJ))&&((cC names s&&cC names g)&&(!jD s g&&(dQ d&&(aW o 0 1439&&(aW l 20 900&&aW f 1 100000)))))):=by simp only[ay,hi]
    clear ht
    cases h5:aW n 1 9999 with
    | false=>
     rw[h5] at hk m0
     simp -dsimp [h1,h2,i0,m0]
     simp[hk]
    | true=>
     obtain ⟨en,_⟩:=jZ h5
     generalize gk n=ni at *
     subst en
     rw[h5] at hk m0
     simp -dsimp [h1,h2,i0,m0,hA']
     refine mI hl (fun y hy=>?_) ?_
     ·obtain ⟨v,r,e,hr⟩:=(hp y hy).ex
      have hn:fJ y=v:=by simp[fJ,e]
      rw[hn]
      refine ⟨_,rfl,?_⟩
      rcases aT e with rfl|rfl<;>simp
     ·intro nl enl
      have hin:dIn S (.int ni) (.lst nl)=some (decide (ni∈pre.map fJ)):=by rw[enl]; exact rQ
      cases hd:decide (ni∈pre.map fJ) with
      | true=>
       rw[hd] at hin hk
       simp -dsimp [hin]
       simp[hk]
      | false=>
       rw[hd] at hin hk
       simp -dsimp [hin,ec,hv0,hC]
       refine bC (f:=id) [s,g] (fun y=>!cC names y) id zqS zqS (fun y hy=>?_) ?_
       ·have ty:bc 6 y=true:=by
         rcases List.mem_cons.mp hy with rfl|hy
         ·exact ts
         ·rw[List.mem_singleton.mp hy]; exact tg
        have wy:=hW ty zqO
        exact ⟨_,rfl,by simp[wy],fun _=>rfl⟩
       ·obtain ⟨f1,f2⟩:=mJ (ll:=([s,g].filter fun y=>!cC names y).map id) (n:=6) (fun y hy=>by
         rw[List.map_id] at hy
         have hy:=(List.mem_filter.mp hy).1
         rcases List.mem_cons.mp hy with rfl|hy
         ·exact ts
         ·rw[List.mem_singleton.mp hy]; exact tg) zqO
        have f3:decide (([s,g].filter fun y=>!cC names y).map id=[])=(cC names s&&cC names g):=by
         cases hs:cC names s<;>cases hg:cC names g<;>simp[List.filter,hs,hg]
        rw[f3] at f2
        generalize ([s,g].filter fun y=>!cC names y).map id=ll at *
        cases hsg:(cC names s&&cC names g) with
        | false=>
         rw[hsg] at f2 hk
         simp -dsimp [f1,f2]
         simp[hk]
        | true=>
         rw[hsg] at f2 hk
         rw[Bool.and_eq_true] at hsg
         obtain ⟨hs,hg⟩:=hsg
         simp -dsimp [f1,f2,i5]
         cases hdi:aj d with
         | none=>
          have k1:=cA td hdi S
          simp -dsimp [k1]
          simp[hk,dQ,hdi]
         | some ds=>
          obtain ⟨dn,dt⟩:=bR td hdi
          have k1:=cB hdi S
          obtain ⟨k2,k3⟩:=gj (S:=S) td zqC ds hdi
          cases hde:ds with
          | nil=>
           subst hde
           simp -dsimp [k1,k2,k3]
           simp[hk,dQ,hdi]
          | cons d0 dr=>
           have hkd:dQ d=lQ ds:=by simp only[dQ,hdi,hde]
           have hne:decide (ds=[])=false:=by rw[hde]; simp
           rw[hne] at k3
           clear hde
           have kX:=cZ hdi S
           simp -dsimp [k1,k2,k3,kX]
           refine bC (f:=id) ds (fun y=>!aW y 0 6) id zqS zqO (fun y hy=>⟨_,rfl,by simp[eY (S:=S) 0 6 (dt y hy)],fun _=>rfl⟩) ?_
           obtain ⟨r1,r2⟩:=mJ (ll:=(ds.filter fun y=>!aW y 0 6).map id) (n:=5) (fun y hy=>by
            rw[List.map_id] at hy
            exact dt y (List.mem_filter.mp hy).1) zqO
           have r3:decide ((ds.filter fun y=>!aW y 0 6).map id=[])=ds.all fun y=>aW y 0 6:=by rw[List.map_id]; exact nodays
           rw[r3] at r2
           generalize (ds.filter fun y=>!aW y 0 6).map id=l2 at *
           cases hall:ds.all fun y=>aW y 0 6 with
           | false=>
            rw[hall] at r2
            simp -dsimp [r1,r2]
            simp[hk,hkd,lQ,hall]
           | true=>
            rw[hall] at r2
            obtain ⟨e1,e2⟩:=rO hall
            have hkd:dQ d=decide ((ds.map gk).Pairwise (·<·)):=by rw[hkd]; unfold lQ; rw[hall]; rfl
            cases s with
            | str u=>
             cases g with
             | str v=>
              have hpe:peq (.str u) (.str v)=decide (u=v):=by simp
              have du:dok 60 (.str u)=true:=fT zqO (cz ts)
              have dv:dok 60 (.str v)=true:=fT zqO (cz tg)
              have hk:ay names pre x=(!decide (u=v)&&(dQ d&&(aW o 0 1439&&(aW l 20 900&&aW f 1 100000)))):=by rw[hk]; simp[jD]
              by_cases huv:u=v
              ·subst huv
               simp -dsimp [r1,r2,i1,i2,du,dv]
               simp[hk]
              ·have hk:ay names pre x=(dQ d&&(aW o 0 1439&&(aW l 20 900&&aW f 1 100000))):=by rw[hk]; simp[huv]
               rw[hkd] at hk
               generalize hns:ds.map gk=ns at *
               subst e1
               have hll:n8 S [d]=some (.lst (ns.map D.int)):=by rcases aT hdi with rfl|rfl<;>simp[n8]
               have hvd:view S d=.tup (ns.map D.int):=by rcases aT hdi with rfl|rfl<;>simp
               have hnl:ns.length≤1000:=by simpa using dn
               have hul:(cj ns).length≤60:=by
                have:=ow (ff ns) fun z hz=>e2 z ((g9 ns).mp hz)
                omega
               have hpq:peq (.lst (ns.map D.int)) (.lst ((cj ns).map D.int))=decide (ns.Pairwise (·<·)):=by
                rw[Bool.eq_iff_iff,decide_eq_true_eq,←sD]
                exact (Enc.int.lst).peq ns (cj ns)
               have hd1:dok 60 (.lst (ns.map D.int))=true:=by simp
               have hd2:dok 60 (.lst ((cj ns).map D.int))=true:=by simp
               cases hpw:decide (ns.Pairwise (·<·)) with
               | false=>
                rw[hpw] at hpq hk
                simp -dsimp [r1,r2,i1,i2,du,dv,huv,hll,hvd,gp,hnl,hul,hpq,hd1,hd2]
                simp[hk]
               | true=>
                rw[hpw] at hpq hk
                rw[hk]
                generalize aW o 0 1439=bo at *
                generalize aW l 20 900=bl at *
                generalize aW f 1 100000=bf at *
                cases bo<;>cases bl<;>simp -dsimp [r1,r2,i1,i2,du,dv,huv,hll,hvd,gp,hnl,hul,hpq,hd1,hd2,i3,i4,i6,m1,m2,m3]
             | _=>simp[cC] at hg
            | _=>simp[cC] at hs
  ·have h4:¬((xs.length:Int)=7):=zqO
   simp -dsimp [h1,h2,h4]
   have:ay names pre x=false:=by
    unfold ay
    rw[hi]
    split
    ·rename_i e
     cases e
     simp at h3
    ·rfl
   simp[this]
end
def gI (x:D):D:=match bB x with
 | some (p,k)=>.tup [.int p,.int k]
 | none=>.none
section
variable {S:Sto} {x:D}
theorem qV (hx:bc 8 x=true):fk [x] S=.ok (gI x) S:=by
 apply fF
 unfold fk
 apply bO
 unfold mE
 cases hi:aj x with
 | none=>
  have h1:=cA hx hi S
  simp -dsimp [h1]
  simp[gI,bB,hi]
 | some xs=>
  obtain ⟨hn,ht⟩:=bR hx hi
  have h1:=cB hi S
  have h2:=dP hi S hn
  by_cases h3:xs.length≠2
  ·have h4:¬((xs.length:Int)=2):=zqO
   simp -dsimp [h1,h2,h4]
   have:bB x=some (-1,0):=by
    unfold bB
    rw[hi]
    split
    ·rename_i e
     cases e
     simp at h3
    ·rfl
   simp[gI,this]
  have h3:xs.length=2:=Decidable.not_not.mp h3
  match xs,h3 with
  | [p,l],_=>
   have hp:=ht p zqS
   have hl:=ht l zqS
   clear ht
   have i0:∀S,fIx S x (.int 0)=some p:=fun S=>cD (S:=S) hi (i:=0) zqS
   have i1:∀S,fIx S x (.int 1)=some l:=fun S=>cD (S:=S) hi (i:=1) zqS
   cases hpi:aj p with
   | none=>
    have g1:=cA hp hpi S
    simp -dsimp [h1,h2,i0,g1]
    simp[gI,bB,hi,ci,hpi]
   | some ps=>
   obtain ⟨pn,pt⟩:=bR hp hpi
   have g1:=cB hpi S
   obtain ⟨g2,g3⟩:=gj (S:=S) hp zqC ps hpi
   cases hpe:ps with
   | nil=>
    subst hpe
    simp -dsimp [h1,h2,i0,g1,g2,g3]
    simp[gI,bB,hi,ci,hpi]
   | cons y r=>
   have hX:=cZ hpi S
   have hv0p:∀S,view0 S p=p:=fun S=>ah hpi
   have hbad:ci ac 12 p=au ac 12 [] ps:=by subst hpe; simp[ci,hpi]
   have hne:decide (ps=[])=false:=by rw[hpe]; simp
   rw[hne] at g3
   clear hpe
   have g4:=dP hpi S pn
   have hsm:bN (ps.length:Int)=true:=smallI_iff.mpr zqO
   simp -dsimp [h1,h2,i0,g1,g2,g3,g4,dO,hsm]
   refine fw (f:=fun i:Nat=>D.int (i:Nat)) (List.range ps.length) (fun pre rest env S'=>S'=S∧(∃v1,env=[some x,v1,none,none])∧au ac 12 [] ps=au ac 12 (ps.take pre.length) (ps.drop pre.length)∧(∀w∈ps.take pre.length,RowW 1 w)∧pre.length≤12) rfl ⟨rfl,⟨_,rfl⟩,zqS,zqS,zqS⟩ ?_ ?_
   ·rintro pre i rest env S' hpre ⟨rfl,⟨v1,rfl⟩,hb,hrow,hle⟩
    obtain ⟨rfl,hlt⟩:=qU hpre
    refine ⟨_,rfl,?_⟩
    have hix:=cD (S:=S') hpi hlt
    have hz:=pt _ (List.getElem_mem hlt)
    obtain ⟨d',c1,c2⟩:=jU (aT hpi) none (some (pre.length:Nat))
    rw[fz] at c2
    have hd':aj d'=some (ps.take pre.length):=by rcases c2 with rfl|rfl<;>rfl
    have hc:=j3 (S:=S') hz hd' (by simp; omega) hrow
    have hb2:=pD hlt hb
    by_cases h5:pre.length=12
    ·have h5':(11:Int)<(pre.length:Nat):=zqO
     rw[if_pos (.inl h5)] at hb2
     simp -dsimp [h5']
     simp only[gI,bB,hi,hbad,hb2]
    ·have h5':¬((11:Int)<(pre.length:Nat)):=zqO
     cases hk:ac (ps.take pre.length) ps[pre.length] with
     | false=>
      rw[hk] at hc
      rw[if_pos (.inr hk)] at hb2
      simp -dsimp [i0,hix,h5',c1,hv0p,hc]
      simp only[gI,bB,hi,hbad,hb2]
     | true=>
      rw[hk] at hc
      rw[if_neg (by simp[h5,hk])] at hb2
      simp -dsimp [i0,hix,h5',c1,hv0p,hc]
      refine ⟨hb2,?_,zqO⟩
      rw[jb hlt]
      intro z hz'
      rcases List.mem_append.mp hz' with q|q
      ·exact hrow z q
      ·rw[List.mem_singleton.mp q]
       exact jt hk hz
   ·rintro env S' ⟨rfl,⟨v1,rfl⟩,hb,hrow,_⟩
    rw[List.length_range,List.take_length,List.drop_length] at hb
    rw[List.length_range,List.take_length] at hrow
    have hno:ci ac 12 p=none:=by rw[hbad,hb]; rfl
    clear hb hbad
    cases hj:aj l with
    | none=>
     have k1:=cA hl hj S'
     simp -dsimp [i1,k1]
     simp only[gI,bB,hi,hno,hj]
    | some ls=>
    obtain ⟨ln,lt⟩:=bR hl hj
    have k1:=cB hj S'
    have k4:=dP hj S' ln
    have ksm:bN (ls.length:Int)=true:=smallI_iff.mpr zqO
    have kv0:∀S,view0 S l=l:=fun S=>ah hj
    have hnm:bB x=match au (ay (ps.map bM)) 60 [] ls with
      | some k=>some (1,((k:Nat):Int))
      | none=>none:=by simp only[bB,hi,hno,hj,hpi,Option.getD_some]<;>rfl
    have hws:∀w∈ps.map bM,PyData.strOk w=true:=fun w hw=>by
     obtain ⟨y,hy,rfl⟩:=List.mem_map.mp hw
     exact (hrow y hy).name
    simp -dsimp [i0,i1,k1,hX]
    refine f7 pn (fun y hy=>?_) ?_
    ·obtain ⟨v,r,e,hr,_⟩:=(hrow y hy).ex
     have hn:bM y=v:=by simp[bM,e]
     rw[hn]
     refine ⟨_,rfl,?_⟩
     rcases aT e with rfl|rfl<;>simp
    ·intro nl enl
     simp -dsimp [i1,k4,dO,ksm]
     refine fw (f:=fun i:Nat=>D.int (i:Nat)) (List.range ls.length) (fun pre rest env S''=>S''=S'∧(∃v1,env=[some x,v1,some (.lst nl),none])∧au (ay (ps.map bM)) 60 [] ls=au (ay (ps.map bM)) 60 (ls.take pre.length) (ls.drop pre.length)∧(∀w∈ls.take pre.length,RowN w)∧pre.length≤60) rfl ⟨rfl,⟨_,rfl⟩,zqS,zqS,zqS⟩ ?_ ?_
     ·rintro pre i rest env S'' hpre ⟨rfl,⟨v1,rfl⟩,hb,hrow2,hle⟩
      obtain ⟨rfl,hlt⟩:=qU hpre
      refine ⟨_,rfl,?_⟩
      have hix:=cD (S:=S'') hj hlt
      have hz:=lt _ (List.getElem_mem hlt)
      obtain ⟨d',c1,c2⟩:=jU (aT hj) none (some (pre.length:Nat))
      rw[fz] at c2
      have hd':aj d'=some (ls.take pre.length):=by rcases c2 with rfl|rfl<;>rfl
      have hc:cb [ls[pre.length],d',.lst nl] S''=.ok (.bool (ay (ps.map bM) (ls.take pre.length) ls[pre.length])) S'':=by
       rw[enl]
       exact lg (S:=S'') (hO zqO hz) hd' (by simp; omega) hrow2 hws
      have hb2:=pD hlt hb
      by_cases h5:pre.length=60
      ·have h5':(59:Int)<(pre.length:Nat):=zqO
       rw[if_pos (.inl h5)] at hb2
       simp -dsimp [h5']
       simp only[gI,hnm,hb2]
      ·have h5':¬((59:Int)<(pre.length:Nat)):=zqO
       cases hk:ay (ps.map bM) (ls.take pre.length) ls[pre.length] with
       | false=>
        rw[hk] at hc
        rw[if_pos (.inr hk)] at hb2
        simp -dsimp [i1,hix,h5',c1,kv0,hc]
        simp only[gI,hnm,hb2]
       | true=>
        rw[hk] at hc
        rw[if_neg (by simp[h5,hk])] at hb2
        simp -dsimp [i1,hix,h5',c1,kv0,hc]
        refine ⟨hb2,?_,zqO⟩
        rw[jb hlt]
        intro z hz'
        rcases List.mem_append.mp hz' with q|q
        ·exact hrow2 z q
        ·rw[List.mem_singleton.mp q]
         exact ja hk
     ·rintro env S'' ⟨rfl,⟨v1,rfl⟩,hb,hrow2,_⟩
      rw[List.length_range,List.take_length,List.drop_length] at hb
      simp -dsimp
      simp only[gI,hnm,hb]
      rfl
end
@[simp] theorem eTupF_at (r:MA) (env:En) (S:Sto):cV r env S=(r env S).bind fun ds S=>if ds.length≤1000000 then .ok (.tpn ds) S else .stuck:=rfl
@[simp] theorem eCutF_at (m:ME) (ml mh:MP) (env:En) (S:Sto):gD m ml mh env S=(m env S).bind fun d S=>(ml env S).bind fun lo S=>(mh env S).bind fun hi S=>ofO S (fO (view0 S d) lo hi):=rfl
section
variable {Q:D→Sto→Prop} {E:XV→Sto→Prop}
@[simp ↓] theorem wq_eTupF (r:MA) (env:En) (S:Sto):Res.wp (cV r env S) Q E=Res.wp ((r env S).bind fun ds S=>if ds.length≤1000000 then .ok (.tpn ds) S else .stuck) Q E:=rfl
@[simp ↓] theorem wq_eCutF (m:ME) (ml mh:MP) (env:En) (S:Sto):Res.wp (gD m ml mh env S) Q E=Res.wp ((m env S).bind fun d S=>(ml env S).bind fun lo S=>(mh env S).bind fun hi S=>ofO S (fO (view0 S d) lo hi)) Q E:=rfl
end
/-- no tuple of which no more is known -/
def NT:D→Bool
 | .tup _=>false
 | _=>true
/-- nor one of its parts -/
def PT (x:D):Bool:=match aj x with
 | some xs=>xs.all NT
 | none=>true
theorem fU {x:D} {xs:List D} (h:aj x=some xs):PT x=xs.all NT:=by unfold PT; rw[h]
def ax (L:Nat):Nat→D→Bool
 | _,.none=>true
 | _,.bool _=>true
 | _,.int _=>true
 | _,.str x=>PyData.strOk x&&decide (x.length≤1000)
 | n+1,.tup xs=>decide (xs.length≤L)&&xs.all (ax L n)
 | n+1,.lst xs=>decide (xs.length≤L)&&xs.all (ax L n)
 | n+1,.tpn xs=>decide (xs.length≤L)&&xs.all (ax L n)
 | _,_=>false
section
variable {L M:Nat}
theorem rR (n:Nat):ax L n .none=true:=by cases n<;>rfl
theorem v6 (n:Nat) (b:Bool):ax L n (.bool b)=true:=by cases n<;>rfl
theorem fK (n:Nat) (i:Int):ax L n (.int i)=true:=by cases n<;>rfl
theorem qW (n:Nat) (x:Str):ax L n (.str x)=(PyData.strOk x&&decide (x.length≤1000)):=by cases n<;>rfl
theorem lR (n:Nat) (xs:List D):ax L (n+1) (.tup xs)=(decide (xs.length≤L)&&xs.all (ax L n)):=rfl
theorem ui (n:Nat) (xs:List D):ax L (n+1) (.lst xs)=(decide (xs.length≤L)&&xs.all (ax L n)):=rfl
theorem jc (n:Nat) (xs:List D):ax L (n+1) (.tpn xs)=(decide (xs.length≤L)&&xs.all (ax L n)):=rfl
theorem iK:∀ {n m:Nat} {d:D},n≤m→L≤M→ax L n d=true→ax M m d=true
 | n,m,.none,_,_,_=>rR m
 | n,m,.bool b,_,_,_=>v6 m b
 | n,m,.int b,_,_,_=>fK m b
 | n,m,.str x,_,_,h=>by rw[qW] at *; exact h
 | n+1,m+1,.tup xs,hn,hl,h=>by
  rw[lR] at h ⊢
  simp only[Bool.and_eq_true,List.all_eq_true,decide_eq_true_eq] at *
  exact ⟨Nat.le_trans h.1 hl,fun x hx=>iK zqO hl (h.2 x hx)⟩
 | n+1,m+1,.lst xs,hn,hl,h=>by
  rw[ui] at h ⊢
  simp only[Bool.and_eq_true,List.all_eq_true,decide_eq_true_eq] at *
  exact ⟨Nat.le_trans h.1 hl,fun x hx=>iK zqO hl (h.2 x hx)⟩
 | n+1,m+1,.tpn xs,hn,hl,h=>by
  rw[jc] at h ⊢
  simp only[Bool.and_eq_true,List.all_eq_true,decide_eq_true_eq] at *
  exact ⟨Nat.le_trans h.1 hl,fun x hx=>iK zqO hl (h.2 x hx)⟩
 | n,m,.ty _,_,_,h=>by cases n<;>cases h
 | n,m,.ro _,_,_,h=>by cases n<;>cases h
 | n,m,.loc _,_,_,h=>by cases n<;>cases h
 | n,m,.glo _,_,_,h=>by cases n<;>cases h
 | n,m,.adr _,_,_,h=>by cases n<;>cases h
 | n,m,.clo _ _ _ _,_,_,h=>by cases n<;>cases h
 | n,m,.exn _ _ _ _,_,_,h=>by cases n<;>cases h
 | 0,_,.tup _,_,_,h=>by cases h
 | 0,_,.lst _,_,_,h=>by cases h
 | 0,_,.tpn _,_,_,h=>by cases h
 | n+1,0,.tup _,hl,_,_=>by omega
 | n+1,0,.lst _,hl,_,_=>by omega
 | n+1,0,.tpn _,hl,_,_=>by omega
theorem hQ:∀ {n:Nat} {d:D},L≤1000→ax L n d=true→bc n d=true
 | n,.none,_,_=>mG n
 | n,.bool b,_,_=>mH n b
 | n,.int b,_,_=>oy n b
 | n,.str x,_,h=>by rw[qW] at h; rw[fG]; exact h
 | n+1,.tup xs,hl,h=>by
  rw[lR] at h
  rw[jB]
  simp only[Bool.and_eq_true,List.all_eq_true,decide_eq_true_eq] at *
  exact ⟨Nat.le_trans h.1 hl,fun x hx=>hQ hl (h.2 x hx)⟩
 | n+1,.lst xs,hl,h=>by
  rw[ui] at h
  rw[lN]
  simp only[Bool.and_eq_true,List.all_eq_true,decide_eq_true_eq] at *
  exact ⟨Nat.le_trans h.1 hl,fun x hx=>hQ hl (h.2 x hx)⟩
 | n+1,.tpn xs,hl,h=>by
  rw[jc] at h
  rw[jC]
  simp only[Bool.and_eq_true,List.all_eq_true,decide_eq_true_eq] at *
  exact ⟨Nat.le_trans h.1 hl,fun x hx=>hQ hl (h.2 x hx)⟩
 | n,.ty _,_,h=>by cases n<;>cases h
 | n,.ro _,_,h=>by cases n<;>cases h
 | n,.loc _,_,h=>by cases n<;>cases h
 | n,.glo _,_,h=>by cases n<;>cases h
 | n,.adr _,_,h=>by cases n<;>cases h
 | n,.clo _ _ _ _,_,h=>by cases n<;>cases h
 | n,.exn _ _ _ _,_,h=>by cases n<;>cases h
 | 0,.tup _,_,h=>by cases h
 | 0,.lst _,_,h=>by cases h
 | 0,.tpn _,_,h=>by cases h
theorem qX {n:Nat} {x:D} {xs:List D} (h:ax L (n+1) x=true) (e:aj x=some xs):xs.length≤L∧∀y∈xs,ax L n y=true:=by
 rcases aT e with rfl|rfl
 ·rw[lR] at h
  simp only[Bool.and_eq_true,List.all_eq_true,decide_eq_true_eq] at h
  exact h
 ·rw[jc] at h
  simp only[Bool.and_eq_true,List.all_eq_true,decide_eq_true_eq] at h
  exact h
theorem rT {n:Nat} {xs:List D} (h1:xs.length≤L) (h2:∀y∈xs,ax L n y=true):ax L (n+1) (.tup xs)=true:=by
 rw[lR]
 simp only[Bool.and_eq_true,List.all_eq_true,decide_eq_true_eq]
 exact ⟨h1,h2⟩
/-- what is told instead -/
def someD:List D:=[.int (-1),.int 0,.int 1,.int 6,.int 7,.int 9,.int 10,.int 19,.int 20,.int 300,.int 301,.int 900,.int 901,.int 1439,.int 1440,.int 9999,.int 10000,.int 100000,.int 100001,.bool true,.none,.str "aba",.str "Aba",.str "ab",.str "abcd",.str "",.tpn [],.tpn [.int 0,.int 0],.tpn [.int 6,.int 1],.tpn [.int 0,.int 6],.int 100,.int 103,.lst [.int 0]]
theorem uj:∀d∈someD,ax 2 1 d=true:=zqD
end
theorem pE:∀d∈someD,NT d=true∧PT d=true:=zqD
theorem rU {S:Sto} {v:Int} (h0:0≤v) (h1:v<33):∃d∈someD,fIx S (.lst someD) (.int v)=some d:=by
 have hl:someD.length=33:=rfl
 have:v.toNat<someD.length:=zqO
 refine ⟨someD[v.toNat],List.getElem_mem this,?_⟩
 rw[mw,gy h0 zqO,List.getElem?_eq_getElem this]
theorem lS {a:D} {xs:List D} (ha:aj a=some xs):vt a=.tup xs:=by rcases aT ha with rfl|rfl<;>rfl
theorem di {a b:D} {xs ys:List D} (ha:aj a=some xs) (hb:aj b=some ys) (hl:xs.length+ys.length≤1000000):∃c,bU a b=some c∧aj c=some (xs++ys)∧(NT a=true→NT b=true→NT c=true):=by
 refine ⟨catF a b xs ys,?_,?_,?_⟩
 ·unfold bU
  rw[lS ha,lS hb]
  simp[hl]
 ·unfold catF
  by_cases h:xs=[]
  ·rw[if_pos h,h]; exact hb
  ·rw[if_neg h]
   by_cases h2:ys=[]
   ·rw[if_pos h2,h2,List.append_nil]; exact ha
   ·rw[if_neg h2]; rfl
 ·intro h1 h2
  unfold catF
  split
  ·exact h2
  ·split
   ·exact h1
   ·rfl
theorem eW {a:D} {xs:List D} (ha:aj a=some xs) (lo hi:Option Int):∃c,fO a lo hi=some c∧aj c=some (cM xs lo hi)∧(NT a=true→NT c=true):=by
 unfold fO
 rw[lS ha]
 refine ⟨_,rfl,?_,?_⟩
 ·split
  ·rename_i hw
   unfold cM
   rw[hw.1,hw.2]
   simpa using ha
  ·rfl
 ·intro h
  split
  ·exact h
  ·rfl
theorem jE {L n:Nat} {c:D} {zs:List D} (h:aj c=some zs) (h1:zs.length≤L) (h2:∀y∈zs,ax L n y=true):ax L (n+1) c=true:=by
 rcases aT h with rfl|rfl
 ·exact rT h1 h2
 ·rw[jc]
  simp only[Bool.and_eq_true,List.all_eq_true,decide_eq_true_eq]
  exact ⟨h1,h2⟩
theorem nK {α:Type} (xs:List α) (lo hi:Option Int):(cM xs lo hi).length≤xs.length:=by
 unfold cM
 simp
 omega
theorem c5 {α:Type} {xs:List α} {lo hi:Option Int} {y:α} (h:y∈cM xs lo hi):y∈xs:=by
 unfold cM at h
 exact List.mem_of_mem_drop (List.mem_of_mem_take h)
section
variable {sc:List Int} {L:Nat}
def Oth (L m:Nat) (x a:D):Prop:=ax (L+1) (m+1) a=true∧(NT x=true→NT a=true)∧(PT x=true→PT a=true)
theorem nL {xs:List D} (h:∀y∈xs,NT y=true):xs.all NT=true:=List.all_eq_true.mpr h
theorem pF:∀(m k:Nat) (x:D) (o:O) (T:Sto),m<k→m≤50→ax L m x=true→2≤L→L≤900→Dr sc o→Res.wp (cY k [.loc 0,x] (o::T)) (fun a S'=>Oth L m x a∧∃o',Dr sc o'∧S'=o'::T) NoE
 | m,k+1,x,o,T,hm,hm50,hx,hL,hL2,hd=>by
  show Res.wp (bF 3 _ _ _) _ _
  apply bO
  have hsome:∀d∈someD,Oth L m x d:=fun d hd=>⟨iK zqO zqO (uj d hd),fun _=>(pE d hd).1,fun _=>(pE d hd).2⟩
  cases hi:aj x with
  | none=>
   have h1:=fun S=>cA (hQ zqO hx) hi S
   simp -dsimp [h1]
   refine aQ hd zqO zqO fun v o' hd' g0 g1=>?_
   obtain ⟨d,hdm,e⟩:=rU (S:=o'::T) g0 g1
   unfold someD at e
   simp -dsimp [-mw,e]
   exact ⟨hsome d hdm,hd'⟩
  | some xs=>
   have h1:=fun S=>cB hi S
   simp -dsimp [h1]
   refine aQ hd zqO zqO fun v o1 hd1 g0 g1=>?_
   by_cases hv:v=0
   ·subst hv
    simp -dsimp
    refine aQ hd1 zqO zqO fun v o' hd' g0 g1=>?_
    obtain ⟨d,hdm,e⟩:=rU (S:=o'::T) g0 g1
    unfold someD at e
    simp -dsimp [-mw,e]
    exact ⟨hsome d hdm,hd'⟩
   ·cases m with
    | zero=>rcases aT hi with rfl|rfl<;>cases hx
    | succ m=>
     obtain ⟨xl,xt⟩:=qX hx hi
     have h2:=fun S=>dP hi S zqO
     simp -dsimp [hv,h2]
     refine aQ hd1 zqO zqO fun v2 o2 hd2 g2 g3=>?_
     by_cases hv2:v2=(xs.length:Int)
     ·have hq:=fun S=>gj (S:=S) (hQ zqO hx) (by omega:m+1≤58) xs hi
      have hne:=fun S=>(hq S).1
      have hne2:=fun S=>(hq S).2
      simp -dsimp [hv2,h2,hne,hne2]
      have hv0:=fun S=>ah (S:=S) hi
      obtain ⟨cu,ec,icu,ncu⟩:=eW hi none (some (-1))
      have tcu:Oth L (m+1) x cu:=⟨jE icu (by have:=nK xs none (some (-1)); omega) fun y hy=>iK zqO zqO (xt y (c5 hy)),ncu,fun h=>by rw[fU hi,List.all_eq_true] at h; rw[fU icu]; exact nL fun y hy=>h y (c5 hy)⟩
      by_cases he:xs=[]
      ·obtain ⟨cc,eca,icc,ncc⟩:=di (b:=.tpn [.none]) (ys:=[.none]) hi rfl (by simp; omega)
       have tcc:Oth L (m+1) x cc:=⟨jE icc (by simp; omega) fun y hy=>by
        rcases List.mem_append.mp hy with h|h
        ·exact iK zqO zqO (xt y h)
        ·rw[List.mem_singleton.mp h]; exact rR _,fun h=>ncc h rfl,fun h=>by
        rw[fU hi,List.all_eq_true] at h
        rw[fU icc]
        refine nL fun y hy=>?_
        rcases List.mem_append.mp hy with hy|hy
        ·exact h y hy
        ·rw[List.mem_singleton.mp hy]; rfl⟩
       simp -dsimp [he,hv0,ec,eca]
       refine aQ hd2 zqO zqO fun v3 o3 hd3 g4 g5=>?_
       have:v3=0∨v3=1:=zqO
       rcases this with rfl|rfl
       ·simp -dsimp [tcu]
        exact hd3
       ·simp -dsimp [tcc]
        exact hd3
      ·simp -dsimp [he]
       have hlp:0<xs.length:=List.length_pos_iff.mpr he
       refine aQ hd2 zqO zqO fun v4 o4 hd4 g6 g7=>?_
       have hix:fIx (o4::T) x (.int v4)=some xs[v4.toNat]:=by
        have:=cD (S:=o4::T) hi (i:=v4.toNat) zqO
        rw[show ((v4.toNat:Nat):Int)=v4 by omega] at this
        exact this
       have hone:=xt _ (List.getElem_mem (show v4.toNat<xs.length by omega))
       have hmem:xs[v4.toNat]'(by omega)∈xs:=List.getElem_mem _
       generalize xs[v4.toNat]=one at hix hone hmem
       obtain ⟨cc,eca,icc,ncc⟩:=di (b:=.tpn [one]) (ys:=[one]) hi rfl (by simp; omega)
       have tcc:Oth L (m+1) x cc:=⟨jE icc (by simp; omega) fun y hy=>by
        rcases List.mem_append.mp hy with h|h
        ·exact iK zqO zqO (xt y h)
        ·rw[List.mem_singleton.mp h]; exact iK zqO zqO hone,fun h=>ncc h rfl,fun h=>by
        rw[fU hi,List.all_eq_true] at h
        rw[fU icc]
        refine nL fun y hy=>?_
        rcases List.mem_append.mp hy with hy|hy
        ·exact h y hy
        ·rw[List.mem_singleton.mp hy]; exact h one hmem⟩
       simp -dsimp [hix,hv0,ec,eca]
       refine aQ hd4 zqO zqO fun v3 o3 hd3 g4 g5=>?_
       have:v3=0∨v3=1:=zqO
       rcases this with rfl|rfl
       ·simp -dsimp [tcu]
        exact hd3
       ·simp -dsimp [tcc]
        exact hd3
     ·have hv0:=fun S=>ah (S:=S) hi
      have h22:0≤v2∧v2<xs.length:=zqO
      have hix:∀S,fIx S x (.int v2)=some (xs[v2.toNat]'(by omega)):=fun S=>by
       have:=cD (S:=S) hi (i:=v2.toNat) zqO
       rw[show ((v2.toNat:Nat):Int)=v2 by omega] at this
       exact this
      have hone:=xt _ (List.getElem_mem (show v2.toNat<xs.length by omega))
      obtain ⟨cu,ec,icu,ncu⟩:=eW hi none (some v2)
      obtain ⟨cw,ew,icw,ncw⟩:=eW hi (some (v2+1)) none
      have hmem:xs[v2.toNat]'(by omega)∈xs:=List.getElem_mem _
      simp -dsimp [hv2,h2,hv0,ec,hix]
      refine dN (pF m k _ o2 T zqO zqO hone hL hL2 hd2) ?_ (fun _ _ z=>z.elim)
      rintro a S' ⟨⟨ta,na,_⟩,o',hd',rfl⟩
      have l1:=nK xs none (some v2)
      have l2:=nK xs (some (v2+1)) none
      have l3:(cM xs none (some v2)).length+(cM xs (some (v2+1)) none).length+1≤L+1:=by
       have k1:v2=((v2.toNat:Nat):Int):=zqO
       have k2:v2+1=((v2.toNat+1:Nat):Int):=zqO
       rw[k2,ir,k1,fz]
       simp
       omega
      obtain ⟨c1,e1,i1,n1⟩:=di (b:=.tpn [a]) (ys:=[a]) icu rfl (by simp; omega)
      obtain ⟨c2,e2,i2,n2⟩:=di i1 icw (by simp; omega)
      have tc:Oth L (m+1) x c2:=⟨jE i2 (by simp; omega) fun y hy=>by
       rcases List.mem_append.mp hy with h|h
       ·rcases List.mem_append.mp h with h|h
        ·exact iK zqO zqO (xt y (c5 h))
        ·rw[List.mem_singleton.mp h]; exact ta
       ·exact iK zqO zqO (xt y (c5 h)),fun h=>n2 (n1 (ncu h) rfl) (ncw h),fun h=>by
       rw[fU hi,List.all_eq_true] at h
       rw[fU i2]
       refine nL fun y hy=>?_
       rcases List.mem_append.mp hy with hy|hy
       ·rcases List.mem_append.mp hy with hy|hy
        ·exact h y (c5 hy)
        ·rw[List.mem_singleton.mp hy]; exact na (h _ hmem)
       ·exact h y (c5 hy)⟩
      simp -dsimp [e1,e2,hv0,ew,ah i1,ah icw,ah icu]
      exact ⟨tc,hd'⟩
end
@[simp] theorem eDictQ_at (r:MA) (env:En) (S:Sto):my r env S=(r env S).bind fun ds S=>match ds with
 | [.tpn xs]=>match dm xs with
  | some ps=>if xs.length≤1000000 then .ok (.loc S.length) (S++[.dct false (eF [] ps)]) else .stuck
  | none=>.stuck
 | _=>.stuck:=rfl
section
variable {Q:D→Sto→Prop} {E:XV→Sto→Prop}
@[simp ↓] theorem wq_eDictQ (r:MA) (env:En) (S:Sto):Res.wp (my r env S) Q E=Res.wp ((r env S).bind fun ds S=>match ds with
 | [.tpn xs]=>match dm xs with
  | some ps=>if xs.length≤1000000 then .ok (.loc S.length) (S++[.dct false (eF [] ps)]) else .stuck
  | none=>.stuck
 | _=>.stuck) Q E:=rfl
end
theorem v7 {acc:List (D × D)} {k v:D} (h:∀p∈acc,dD p.1≠dD k):kh false acc k v=acc++[(k,v)]:=by
 unfold kh
 rw[if_neg]
 simp only[List.any_eq_true,not_exists,not_and]
 intro p hp
 simp[keq,h p hp]
theorem sO {τ:Type} {g:MG} {tc:MT} {mk mv:ME} {w:En} {f:τ→D} {ds:List D} {S:Sto} {Q:List (D × D)→Sto→Prop} {E:XV→Sto→Prop} (xs:List τ) (k v:τ→D) (e:ds=xs.map f) (hl:xs.length≤1000000) (nd:(xs.map fun x=>dD (k x)).Nodup)
  (hx:∀x∈xs,∃e,g (f x) w S=some (e,S)∧tc e S=.ok true S∧mk e S=.ok (k x) S∧mv e S=.ok (v x) S∧cp false (k x)=true) (q:Q (xs.map fun x=>(k x,v x)) S):Res.wp (eG g tc mk mv w ds [] S) Q E:=by
 subst e
 have loop:∀(rest:List τ) (acc:List (D × D)),(∀x∈rest,x∈xs)→acc.length+rest.length≤1000000→(rest.map fun x=>dD (k x)).Nodup→(∀p∈acc,∀x∈rest,dD p.1≠dD (k x))→eG g tc mk mv w (rest.map f) acc S=.ok (acc++rest.map fun x=>(k x,v x)) S:=by
  intro rest
  induction rest with
  | nil=>intro acc _ _ _ _; simp[eG]
  | cons x rest ih=>
   intro acc hm hl nd hn
   obtain ⟨e,e1,e2,e3,e4,e5⟩:=hx x (hm x List.mem_cons_self)
   rw[List.length_cons] at hl
   rw[List.map_cons,List.nodup_cons] at nd
   rw[List.map_cons]
   unfold eG jO
   have ha:acc.length<1000000:=zqO
   simp only[e1,e2,e3,e4,e5,e9,if_true,ha,and_self]
   rw[v7 fun p hp=>hn p hp x List.mem_cons_self,ih _ (fun y hy=>hm y (List.mem_cons_of_mem _ hy)) (by simp; omega) nd.2 fun p hp y hy=>?_]
   ·simp
   ·rcases List.mem_append.mp hp with hp|hp
    ·exact hn p hp y (List.mem_cons_of_mem _ hy)
    ·rw[List.mem_singleton.mp hp]
     exact fun e=>nd.1 (List.mem_map.mpr ⟨y,hy,e.symm⟩)
 rw[loop xs [] (fun _ h=>h) (by simpa using hl) nd nofun,fc]
 simpa using q
theorem qY {τ:Type} {xs:List τ} {k:τ→D} {κ:Type} {i:τ→κ} (h:(xs.map i).Nodup) (hk:∀x y,dD (k x)=dD (k y)→i x=i y):(xs.map fun x=>dD (k x)).Nodup:=by
 induction xs with
 | nil=>simp
 | cons x xs ih=>
  rw[List.map_cons,List.nodup_cons] at h ⊢
  refine ⟨fun z=>?_,ih h.2⟩
  obtain ⟨y,hy,e⟩:=List.mem_map.mp z
  exact h.1 (List.mem_map.mpr ⟨y,hy,hk _ _ e⟩)
theorem hY {f:List D→D→Bool} {lim:Nat}:∀ {xs pre:List D},au f lim pre xs=none→∀p z q,xs=p++z::q→f (pre++p) z=true
 | [],_,_,p,z,q,e=>by simp at e
 | x::xs,pre,h,p,z,q,e=>by
  rw[eU] at h
  split at h
  ·cases h
  ·rename_i hn
   have hf:f pre x=true:=by
    cases hq:f pre x with
    | true=>rfl
    | false=>exact absurd (.inr hq) hn
   cases p with
   | nil=>
    cases e
    simpa using hf
   | cons y p=>
    rw[List.cons_append] at e
    cases e
    have:=hY h p z q rfl
    simpa using this
theorem sP {α β:Type} {f:α→β} {xs:List α} (h:∀p z q,xs=p++z::q→f z∉p.map f):(xs.map f).Nodup:=by
 have key:∀(post pre:List α),xs=pre++post→(pre.map f).Nodup→(xs.map f).Nodup:=by
  intro post
  induction post with
  | nil=>
   intro pre e hn
   rw[e,List.append_nil]
   exact hn
  | cons z post ih=>
   intro pre e hn
   refine ih (pre++[z]) (by rw[e]; simp) ?_
   rw[List.map_append,List.nodup_append]
   refine ⟨hn,zqS,fun a ha b hb=>?_⟩
   rw[List.map_cons,List.map_nil,List.mem_singleton] at hb
   rw[hb]
   rintro rfl
   exact h pre z post e ha
 exact key xs [] rfl List.nodup_nil
/-- what a net that can be holds -/
theorem sQ {x:D} (h:bB x=none):∃p l ps ls,aj x=some [p,l]∧aj p=some ps∧aj l=some ls∧ps≠[]∧(∀y∈ps,∃w c,aj y=some [.str w,c])∧(∀y∈ls,RowN y)∧(ls.map fJ).Nodup:=by
 unfold bB at h
 split at h
 ·rename_i p l hi
  split at h
  ·cases h
  ·rename_i hp
   cases hpi:aj p with
   | none=>simp[ci,hpi] at hp
   | some ps=>
    cases hpe:ps with
    | nil=>subst hpe; simp[ci,hpi] at hp
    | cons y r=>
     have hp:au ac 12 [] ps=none:=by subst hpe; simpa [ci,hpi] using hp
     have hne:ps≠[]:=by rw[hpe]; simp
     clear hpe
     cases hli:aj l with
     | none=>simp[hli] at h
     | some ls=>
      have hb:au (ay (ps.map bM)) 60 [] ls=none:=by
       cases hq:au (ay (ps.map bM)) 60 [] ls with
       | none=>rfl
       | some k=>simp[hli,hpi,hq] at h
      refine ⟨p,l,ps,ls,hi,hpi,hli,hne,fun z hz=>?_,fun z hz=>?_,sP fun a z b e=>?_⟩
      ·obtain ⟨a,b,e⟩:=List.append_of_mem hz
       have:=hY hp a z b e
       unfold ac at this
       split at this
       ·rename_i w c hz
        exact ⟨w,c,hz⟩
       ·cases this
      ·obtain ⟨a,b,e⟩:=List.append_of_mem hz
       exact ja (hY hb a z b e)
      ·have:=hY hb a z b e
       rw[List.nil_append] at this
       unfold ay at this
       split at this
       ·rename_i n s g o l2 d f hz
        simp only[Bool.and_eq_true,Bool.not_eq_true',decide_eq_false_iff_not] at this
        obtain ⟨en,_⟩:=jZ this.1.1
        have:fJ z=gk n:=by
         unfold fJ
         rw[hz,en]
         rfl
        rw[this]
        rename_i t _
        exact t.1.2
       ·cases this
 ·cases h
theorem rV:∀ {ps:List D},(∀y∈ps,∃w c,aj y=some [.str w,c])→∃kv,dm ps=some kv
 | [],_=>⟨[],rfl⟩
 | y::ps,h=>by
  obtain ⟨w,c,e⟩:=h y List.mem_cons_self
  obtain ⟨kv,e2⟩:=rV fun z hz=>h z (List.mem_cons_of_mem _ hz)
  refine ⟨(.str w,c)::kv,?_⟩
  have:kB y=some (.str w,c):=by
   unfold kB
   rw[lS e]
   simp
  unfold dm
  rw[this,e2]
section
variable {S:Sto} {x:D}
theorem dG (hx:bc 8 x=true) (hp:PT x=true):Res.wp (ai [.loc S.length,x] (S++[.ins "Net" []]))
  (fun a S'=>bB x=none∧a=.none∧∃fs X,S'=S++(.ins "Net" fs::X)∧(fs.map fun x=>x.1).contains ("need_ride":Str)=false)
  (fun e S'=>∃p k:Int,bB x=some (p,k)∧e=⟨"BadNet",[("number",.int k),("part",.int p)]⟩∧∃X,S'=S++X):=by
 unfold ai
 apply bO
 unfold iw
 have hg:∀x:O,(S++[x])[S.length]?=some x:=fun x=>by simp
 have hg2:∀x y:O,(S++[x,y])[S.length]?=some x:=fun x y=>by simp
 have hg3:∀x y z:O,(S++[x,y,z])[S.length]?=some x:=fun x y z=>by simp
 have hs2:∀x y z:O,(S++[x,y]).set S.length z=S++[z,y]:=fun x y z=>by rw[List.set_append_right _ _ (Nat.le_refl _)]; simp
 have hs3:∀x y u z:O,(S++[x,y,u]).set S.length z=S++[z,y,u]:=fun x y u z=>by rw[List.set_append_right _ _ (Nat.le_refl _)]; simp
 simp -dsimp
 refine dN (pC hx) ?_ ?_
 ·rintro a S' ⟨hn,rfl,rfl⟩
  obtain ⟨p,l,ps,ls,hi,hpi,hli,hne,h1,h2,h3⟩:=sQ hn
  have hV:=lS hi
  have hpt:p=.tpn ps:=by
   rw[fU hi,List.all_eq_true] at hp
   have:=hp p zqS
   rcases aT hpi with rfl|rfl
   ·cases this
   ·rfl
  subst hpt
  obtain ⟨kv,ekv⟩:=rV h1
  have pl:=(bR ((bR hx hi).2 _ zqS) hpi).1
  have ll:=(bR ((bR hx hi).2 l zqS) hli).1
  have hX:=fun S=>cZ (S:=S) hli
  have pl2:ps.length≤1000000:=zqO
  simp -dsimp [hV,ekv,pl2,hg2,hs2,iD,hX]
  refine sO (f:=id) ls (fun y=>.int (fJ y)) id zqS zqO (qY (i:=fJ) h3 fun x y e=>by simpa [dD] using e) (fun y hy=>⟨_,rfl,rfl,?_,zqS,rfl⟩) ?_
  ·obtain ⟨i,r,e,hr⟩:=(h2 y hy).ex
   have hn:fJ y=i:=by simp[fJ,e]
   rw[hn]
   rcases aT e with rfl|rfl<;>simp
  ·simp -dsimp only [kD,fc,Res.bind]
   simp -dsimp [hg3,hs3,iD]
   first|exact hn|exact ⟨hn,_,_,⟨rfl,rfl⟩,by simp; decide +kernel⟩
 ·rintro e S' ⟨p,k,h1,rfl,rfl⟩
  exact ⟨p,k,h1,rfl,_,rfl⟩
end
theorem v8 (a b:D):hdK "BadNet" [("number",a),("part",b)]=some (.tup [.str "BadNet",b,a]):=by
 unfold hdK oB
 rw[if_pos ⟨zqD,show (["number","part"]:List Str)=ck "BadNet" by decide +kernel⟩]
 rfl
theorem jF:hdK "BadCount" []=some (.str "BadCount"):=by
 unfold hdK oB
 rw[if_pos ⟨zqD,show ([]:List Str)=ck "BadCount" by decide +kernel⟩]
 rfl
theorem qZ:hdK "BadDay" []=some (.str "BadDay"):=by
 unfold hdK oB
 rw[if_pos ⟨zqD,show ([]:List Str)=ck "BadDay" by decide +kernel⟩]
 rfl
theorem sR:hdK "NoLeg" []=some (.str "NoLeg"):=by
 unfold hdK oB
 rw[if_pos ⟨zqD,show ([]:List Str)=ck "NoLeg" by decide +kernel⟩]
 rfl
theorem nM:hdK "BadPlace" []=some (.str "BadPlace"):=by
 unfold hdK oB
 rw[if_pos ⟨zqD,show ([]:List Str)=ck "BadPlace" by decide +kernel⟩]
 rfl
theorem nN:hdK "BadChain" []=some (.str "BadChain"):=by
 unfold hdK oB
 rw[if_pos ⟨zqD,show ([]:List Str)=ck "BadChain" by decide +kernel⟩]
 rfl
/-- what a door tells -/
def j4 (x:D) (w:Str):D:=match bB x with
 | some (p,k)=>.tup [.str "BadNet",.int p,.int k]
 | none=>.str w
def Dn (x:D) (w:Str) (S:Sto) (e:XV) (S':Sto):Prop:=hdK e.cls e.fs=some (j4 x w)∧∃X,S'=S++X
theorem Dn.bad {x:D} {w:Str} {S S':Sto} {e:XV} (h:∃p k:Int,bB x=some (p,k)∧e=⟨"BadNet",[("number",.int k),("part",.int p)]⟩∧∃X,S'=S++X):Dn x w S e S':=by
 obtain ⟨p,k,h1,rfl,X,rfl⟩:=h
 refine ⟨?_,X,rfl⟩
 rw[v8]
 simp only[j4,h1]
theorem Dn.of {x:D} {w:Str} {S:Sto} (h:bB x=none) (hw:hdK w []=some (.str w)) (X:Sto):Dn x w S ⟨w,[]⟩ (S++X):=by
 refine ⟨?_,X,rfl⟩
 rw[hw]
 simp only[j4,h]
section
variable {S:Sto} {x:D}
theorem qa (hx:bc 8 x=true) (hp:PT x=true):Res.wp (hI [x,.none,.int 0] S) (fun _ _=>False) (Dn x "BadDay" S):=by
 unfold hI
 apply bO
 unfold rH
 simp -dsimp
 refine dN (dG hx hp) ?_ (fun e S' h=>Dn.bad h)
 rintro a S' ⟨hn,rfl,fs,X,rfl,hc⟩
 have g0:(S++O.ins "Net" fs::X)[S.length]?=some (O.ins "Net" fs):=gz S _
 simp -dsimp [g0,fQ,jq,lM (t:="NoneType") 0 60 (lL _),aW]
 exact Dn.of hn qZ _
theorem qb (hx:bc 8 x=true) (hp:PT x=true):Res.wp (hJ [x,.none] S) (fun _ _=>False) (Dn x "NoLeg" S):=by
 unfold hJ
 apply bO
 unfold rJ
 simp -dsimp
 refine dN (dG hx hp) ?_ (fun e S' h=>Dn.bad h)
 rintro a S' ⟨hn,rfl,fs,X,rfl,hc⟩
 have g0:(S++O.ins "Net" fs::X)[S.length]?=some (O.ins "Net" fs):=gz S _
 simp -dsimp [g0,hc,bx,gE,bJ]
 rw[if_pos ⟨rfl,hc⟩,qB]
 exact Dn.of hn sR _
theorem sS (hx:bc 8 x=true) (hp:PT x=true):Res.wp (jW [x,.none,.int 0,.int 0,.int 4] S) (fun _ _=>False) (Dn x "BadPlace" S):=by
 unfold jW
 apply bO
 unfold uY
 simp -dsimp
 refine dN (dG hx hp) ?_ (fun e S' h=>Dn.bad h)
 rintro a S' ⟨hn,rfl,fs,X,rfl,hc⟩
 have g0:(S++O.ins "Net" fs::X)[S.length]?=some (O.ins "Net" fs):=gz S _
 simp -dsimp [g0,eS,ix,bJ]
 exact Dn.of hn nM _
theorem pG (hx:bc 8 x=true) (hp:PT x=true):Res.wp (fj [x,.none,.int 0,.int 0] S) (fun _ _=>False) (Dn x "BadCount" S):=by
 unfold fj
 apply bO
 unfold ol
 simp -dsimp
 refine dN (dG hx hp) ?_ (fun e S' h=>Dn.bad h)
 rintro a S' ⟨hn,rfl,fs,X,rfl,hc⟩
 have g0:(S++O.ins "Net" fs::X)[S.length]?=some (O.ins "Net" fs):=gz S _
 simp -dsimp [g0,cW,gd,lM (t:="NoneType") 10 300 (lL _),aW]
 exact Dn.of hn jF _
theorem jG (hx:bc 8 x=true) (hp:PT x=true):Res.wp (b9 [x,.none,.int 0,.int 0,.int 0] S) (fun _ _=>False) (Dn x "BadCount" S):=by
 unfold b9
 apply bO
 unfold ge
 simp -dsimp
 refine dN (dG hx hp) ?_ (fun e S' h=>Dn.bad h)
 rintro a S' ⟨hn,rfl,fs,X,rfl,hc⟩
 have g0:(S++O.ins "Net" fs::X)[S.length]?=some (O.ins "Net" fs):=gz S _
 simp -dsimp [g0,cW,gd,lM (t:="NoneType") 10 300 (lL _),aW]
 exact Dn.of hn jF _
theorem uk (hx:bc 8 x=true) (hp:PT x=true):Res.wp (mD [x,.none] S) (fun _ _=>False) (Dn x "BadChain" S):=by
 unfold mD
 apply bO
 unfold b_cut
 simp -dsimp
 refine dN (dG hx hp) ?_ (fun e S' h=>Dn.bad h)
 rintro a S' ⟨hn,rfl,fs,X,rfl,hc⟩
 have g0:(S++O.ins "Net" fs::X)[S.length]?=some (O.ins "Net" fs):=gz S _
 simp -dsimp [g0,eT,iz,bJ]
 exact Dn.of hn nN _
end
theorem h9 {L n:Nat} {x:Str} (h:PyData.strOk x=true) (h2:x.length≤1000):ax L n (.str x)=true:=by
 rw[qW]; simp[h,h2]
theorem sT {L n:Nat} {xs:List D} (h1:xs.length≤L) (h2:∀y∈xs,ax L n y=true):ax L (n+1) (.tpn xs)=true:=by
 rw[jc]
 simp only[Bool.and_eq_true,List.all_eq_true,decide_eq_true_eq]
 exact ⟨h1,h2⟩
theorem qc:∀x∈six,∀L n,ax L n (.str x)=true:=fun x hx L n=>by
 have:PyData.strOk x=true∧x.length≤1000:=by revert x; decide +kernel
 exact h9 this.1 this.2
/-- a net of places and legs that are rows of two and of seven -/
structure Sh (x:D):Prop where
 ex:∃p l ps ls,aj x=some [p,l]∧aj p=some ps∧aj l=some ls∧NT p=true∧NT l=true∧(0<ps.length∧ps.length≤13)∧(0<ls.length∧ls.length≤61)∧
  (∀y∈ps,ax 62 2 y=true∧∃a b,aj y=some [a,b])∧(∀y∈ls,ax 62 2 y=true∧∃a b c d e f g,aj y=some [a,b,c,d,e,f,g])
theorem Sh.tl {x:D} (h:Sh x):ax 62 4 x=true∧PT x=true:=by
 obtain ⟨p,l,ps,ls,hi,hp,hl,n1,n2,b1,b2,t1,t2⟩:=h.ex
 refine ⟨jE hi zqS fun y hy=>?_,?_⟩
 ·rcases List.mem_cons.mp hy with rfl|hy
  ·exact jE hp zqO fun z hz=>(t1 z hz).1
  ·rw[List.mem_singleton.mp hy]
   exact jE hl zqO fun z hz=>(t2 z hz).1
 ·rw[fU hi]
  simp[n1,n2]
theorem net_sh {ps:List (Str × Int)} {ls:List Leg} (H:NetOk ps ls):Sh (netD ps ls):=by
 have hpl:=H.plen
 have hls:=H.few
 have hne:0<ls.length:=List.length_pos_iff.mpr H.ne
 refine ⟨⟨_,_,ps.map jX,ls.map Leg.d,rfl,rfl,rfl,rfl,rfl,by simp; omega,by simp; omega,fun y hy=>?_,fun y hy=>?_⟩⟩
 ·obtain ⟨q,hq,rfl⟩:=List.mem_map.mp hy
  refine ⟨rT zqS fun z hz=>?_,_,_,rfl⟩
  simp only[List.mem_cons,List.not_mem_nil,or_false] at hz
  rcases hz with rfl|rfl
  ·exact qc _ (H.sub _ (List.mem_map_of_mem hq)) _ _
  ·exact fK _ _
 ·obtain ⟨q,hq,rfl⟩:=List.mem_map.mp hy
  have hk:=H.legs q hq
  have hd:=ow hk.dlt hk.dbd
  refine ⟨rT zqS fun z hz=>?_,_,_,_,_,_,_,_,rfl⟩
  simp only[List.mem_cons,List.not_mem_nil,or_false] at hz
  rcases hz with rfl|rfl|rfl|rfl|rfl|rfl|rfl
  ·exact fK _ _
  ·exact qc _ (H.sub _ hk.s) _ _
  ·exact qc _ (H.sub _ hk.g) _ _
  ·exact fK _ _
  ·exact fK _ _
  ·have:aj (oq q.db q.days)=some (q.days.map D.int):=by cases q.db<;>rfl
   exact jE this (by simp; omega) fun y hy=>by
    obtain ⟨i,hi,rfl⟩:=List.mem_map.mp hy
    exact fK _ _
  ·exact fK _ _
def chS (k:Nat):Str:=⟨#[97+k]⟩
theorem ul (S:Sto) {k:Nat} (h:k<13):fIx S (.str "abcdefghijklm") (.int (k:Int))=some (.str (chS k)):=by
 have e:fIx S (.str "abcdefghijklm") (.int (k:Int))=(atI ("abcdefghijklm":Str).cps.toList (k:Int)).map fun c=>.str ⟨#[c]⟩:=rfl
 rw[e]
 have:k=0∨k=1∨k=2∨k=3∨k=4∨k=5∨k=6∨k=7∨k=8∨k=9∨k=10∨k=11∨k=12:=zqO
 rcases this with rfl|rfl|rfl|rfl|rfl|rfl|rfl|rfl|rfl|rfl|rfl|rfl|rfl<;>rfl
theorem a_add (k:Nat):bH (.str "a") (.str (chS k))=some (.str ("a"++chS k)):=rfl
theorem a_add2 (k:Nat):bH (.str ("a"++chS k)) (.str "a")=some (.str ("a"++chS k++"a")):=rfl
theorem aka_tl {k:Nat} (h:k<13) (L n:Nat):ax L n (.str ("a"++chS k++"a"))=true:=by
 have:PyData.strOk ("a"++chS k++"a")=true∧("a"++chS k++"a":Str).length≤1000:=by
  revert k; decide +kernel
 exact h9 this.1 this.2
def gPl (k:Nat):D:=.tup [.str ("a"++chS k++"a"),.int 30]
def gLg (k:Nat):D:=.tup [.int ((k:Int)+1),.str "aaa",.str "aba",.int 60,.int 60,.tup [.int ((k:Int) % 7)],.int 9]
theorem um {m n:Nat} (h1:0<m) (h2:m≤13) (h3:0<n) (h4:n≤61):Sh (.tup [.tpn ((List.range m).map gPl),.tpn ((List.range n).map gLg)]):=by
 refine ⟨⟨_,_,(List.range m).map gPl,(List.range n).map gLg,rfl,rfl,rfl,rfl,rfl,by simp; omega,by simp; omega,fun y hy=>?_,fun y hy=>?_⟩⟩
 ·obtain ⟨q,hq,rfl⟩:=List.mem_map.mp hy
  have:=List.mem_range.mp hq
  refine ⟨rT zqS fun z hz=>?_,_,_,rfl⟩
  simp only[List.mem_cons,List.not_mem_nil,or_false] at hz
  rcases hz with rfl|rfl
  ·exact aka_tl zqO _ _
  ·exact fK _ _
 ·obtain ⟨q,hq,rfl⟩:=List.mem_map.mp hy
  have a1:ax 62 1 (.str "aaa")=true:=h9 zqD zqD
  have a2:ax 62 1 (.str "aba")=true:=h9 zqD zqD
  refine ⟨?_,_,_,_,_,_,_,_,rfl⟩
  simp[gLg,lR,fK,a1,a2]
section
variable {sc:List Int} {o:O} {T:Sto} {Q:D→Sto→Prop} {E:XV→Sto→Prop}
theorem uo (d:Dr sc o) (k:∀x o' T',Sh x→Dr sc o'→Q x (o'::T')):Res.wp (dq [.loc 0] (o::T)) Q E:=by
 unfold dq
 apply bO
 unfold jr
 simp -dsimp
 refine aQ d zqO zqO fun v o1 d1 a1 a2=>?_
 have hs:bN (12+v)=true:=fe zqO
 simp -dsimp [hs,dO]
 refine bC (f:=fun i:Nat=>D.int i) (List.range (12+v).toNat) (fun _=>true) gPl zqS (by simp; omega) (fun i hi=>⟨_,rfl,rfl,fun _=>?_⟩) ?_
 ·have:=List.mem_range.mp hi
  have e1:=fun S=>ul S (show i<13 by omega)
  simp -dsimp [e1,a_add,a_add2]
  rfl
 rw[dC]
 simp -dsimp
 refine aQ d1 zqO zqO fun w o2 d2 b1 b2=>?_
 have hs2:bN (60+w)=true:=fe zqO
 simp -dsimp [hs2,dO]
 refine bC (f:=fun i:Nat=>D.int i) (List.range (60+w).toNat) (fun _=>true) gLg zqS (by simp; omega) (fun i hi=>⟨_,rfl,rfl,fun _=>?_⟩) ?_
 ·simp -dsimp
  rfl
 rw[dC]
 simp -dsimp
 exact k _ _ _ (um zqO zqO zqO zqO) d2
end
theorem eg {r:Res D} {x:D} {w:Str} {S:Sto} (h:Res.wp r (fun _ _=>False) (Dn x w S)):∃X,fY hdK r=.ok (j4 x w) (S++X):=by
 cases r with
 | ok a S1=>rw[fc] at h; exact h.elim
 | exc e S1=>
  rw[qB] at h
  obtain ⟨h1,X,rfl⟩:=h
  exact ⟨X,by unfold fY; simp[h1]⟩
 | stuck=>simp at h
def pH (x:D):D:=.lst [j4 x "BadDay",j4 x "NoLeg",j4 x "BadPlace",j4 x "BadCount",j4 x "BadCount",j4 x "BadChain"]
section
variable {S:Sto} {x a0 a1 a2 a4 a5 a6 a7 a8 a9 a10 a11 a12 a13 a14 a15 a16 a17:Option D} {d:D}
theorem uq (hx:bc 8 d=true) (hp:PT d=true):∃X,dW hdK [10,12] dZ [a0,a1,a2,some d,a4,a5,a6,a7,a8,a9,a10,a11,a12,a13,a14,a15,a16,a17] S=.ok (pH d) (S++X):=by
 obtain ⟨X1,e1⟩:=eg (qa (S:=S) hx hp)
 obtain ⟨X2,e2⟩:=eg (qb (S:=S++X1) hx hp)
 obtain ⟨X3,e3⟩:=eg (sS (S:=S++X1++X2) hx hp)
 obtain ⟨X4,e4⟩:=eg (pG (S:=S++X1++X2++X3) hx hp)
 obtain ⟨X5,e5⟩:=eg (jG (S:=S++X1++X2++X3++X4) hx hp)
 obtain ⟨X6,e6⟩:=eg (uk (S:=S++X1++X2++X3++X4++X5) hx hp)
 refine ⟨X1++(X2++(X3++(X4++(X5++X6)))),?_⟩
 simp only[List.append_assoc] at e1 e2 e3 e4 e5 e6
 simp[dW,fv,dZ,aa,e1,e2,e3,e4,e5,e6,pH]
theorem uu:PyData.strOk "BadNet"=true∧PyData.strOk "BadDay"=true∧PyData.strOk "NoLeg"=true∧PyData.strOk "BadPlace"=true∧PyData.strOk "BadCount"=true∧PyData.strOk "BadChain"=true:=zqD
theorem v9 (hx:bc 8 d=true) (hp:PT d=true):∃X,mm 18 fE [a0,a1,a2,some d,a4,a5,a6,a7,a8,some (gI d),a10,a11,a12,a13,a14,a15,a16,a17] S=.next [a0,a1,a2,some d,a4,a5,a6,a7,a8,some (gI d),none,some (pH d),a12,a13,a14,a15,a16,a17] (S++X):=by
 obtain ⟨X,e⟩:=uq (S:=S) (a0:=a0) (a1:=a1) (a2:=a2) (a4:=a4) (a5:=a5) (a6:=a6) (a7:=a7) (a8:=a8) (a9:=some (gI d)) (a10:=none) (a11:=a11) (a12:=a12) (a13:=a13) (a14:=a14) (a15:=a15) (a16:=a16) (a17:=a17) hx hp
 refine ⟨X,?_⟩
 obtain ⟨w1,w2,w3,w4,w5,w6⟩:=uu
 cases hn:bB d with
 | none=>
  have hd:gI d=.none:=by simp only[gI,hn]
  rw[hd] at e ⊢
  unfold mm fE jA
  simp[ku,aa,e,pH,j4,hn,isN,w1,w2,w3,w4,w5,w6]
 | some pk=>
  obtain ⟨p,k⟩:=pk
  have hd:gI d=.tup [.int p,.int k]:=by simp only[gI,hn]
  have ha:bU (.tpn [.str "BadNet"]) (.tup [.int p,.int k])=some (.tpn [.str "BadNet",.int p,.int k]):=by
   simp[bU,vt,catF]
  rw[hd] at e ⊢
  unfold mm fE jA
  simp[ku,aa,e,pH,j4,hn,isN,ha,w1]
end
end DL
set_option maxHeartbeats 8000000
namespace DL
open PySem PySem.Spec PyProof.Rows L2 LamX
/-- what stands between the steps: a net,then the other names -/
structure Pn (P:D→Prop) (sc:List Int) (front:En) (env:En) (S:Sto):Prop where
 ex:∃o T x tail,Dr sc o∧P x∧tail.length=14∧env=front++some x::tail∧S=o::T
structure FrN (sc:List Int) (front:En) (n:Nat) (env:En) (S:Sto):Prop where
 ex:∃o T tail,Dr sc o∧tail.length=n∧env=front++tail∧S=o::T
theorem ln14 {α:Type} {l:List α} (h:l.length=14):∃a b c d e f g i j k m n o p,l=[a,b,c,d,e,f,g,i,j,k,m,n,o,p]:=by
 match l,h with
 | [a,b,c,d,e,f,g,i,j,k,m,n,o,p],_=>exact ⟨a,b,c,d,e,f,g,i,j,k,m,n,o,p,rfl⟩
section
variable {x days:D}
/-- the net with other days of a leg -/
theorem wA {v:Int} {p l:D} {ps ls:List D} (hi:aj x=some [p,l]) (hp:aj p=some ps) (hl:aj l=some ls) (n1:NT p=true) (n2:NT l=true) (b1:0<ps.length∧ps.length≤13) (b2:0<ls.length∧ls.length≤61)
  (t1:∀y∈ps,ax 62 2 y=true∧∃a b,aj y=some [a,b]) (t2:∀y∈ls,ax 62 2 y=true∧∃a b c d e f g,aj y=some [a,b,c,d,e,f,g]) (hv:0≤v∧v<ls.length) (hd:ax 62 1 days=true) :
  ∃y c1 c2 d1 d2 d3 d4,(∀S,fIx S l (.int v)=some y)∧fO l none (some v)=some c1∧fO y none (some 5)=some d1∧bU d1 (.tpn [days])=some d2∧fO y (some 6) none=some d3∧bU d2 d3=some d4∧
   fO l (some (v+1)) none=some c2∧(∀S,view0 S y=y∧view0 S d1=d1∧view0 S d2=d2∧view0 S d3=d3∧view0 S c1=c1∧view0 S c2=c2∧view0 S l=l)∧∃c3 c4,bU c1 (.tpn [d4])=some c3∧bU c3 c2=some c4∧(∀S,view0 S c3=c3)∧Sh (.tpn [p,c4]):=by
 have hlt:v.toNat<ls.length:=zqO
 have hy:=t2 _ (List.getElem_mem hlt)
 have hix:∀S,fIx S l (.int v)=some ls[v.toNat]:=fun S=>by
  have:=cD (S:=S) hl (i:=v.toNat) hlt
  rw[show ((v.toNat:Nat):Int)=v by omega] at this
  exact this
 generalize ls[v.toNat]=y at hy hix
 obtain ⟨ty,a,b,c,d,e,f,g,hyi⟩:=hy
 have hyt:=(qX ty hyi).2
 obtain ⟨c1,ec1,ic1,nc1⟩:=eW hl none (some v)
 obtain ⟨c2,ec2,ic2,nc2⟩:=eW hl (some (v+1)) none
 obtain ⟨d1,ed1,id1,nd1⟩:=eW hyi none (some 5)
 obtain ⟨d3,ed3,id3,nd3⟩:=eW hyi (some 6) none
 have id1:aj d1=some [a,b,c,d,e]:=id1
 have id3:aj d3=some [g]:=id3
 obtain ⟨d2,ed2,id2,nd2⟩:=di (b:=.tpn [days]) (ys:=[days]) id1 rfl zqS
 obtain ⟨d4,ed4,id4,nd4⟩:=di id2 id3 zqS
 have k1:v=((v.toNat:Nat):Int):=zqO
 have k2:v+1=((v.toNat+1:Nat):Int):=zqO
 have l1:(cM ls none (some v)).length=v.toNat:=by rw[k1,fz,List.length_take]; omega
 have l2:(cM ls (some (v+1)) none).length=ls.length - (v.toNat+1):=by rw[k2,ir,List.length_drop]
 obtain ⟨c3,ec3,ic3,nc3⟩:=di (b:=.tpn [d4]) (ys:=[d4]) ic1 rfl (by simp; omega)
 obtain ⟨c4,ec4,ic4,nc4⟩:=di ic3 ic2 (by simp; omega)
 refine ⟨y,c1,c2,d1,d2,d3,d4,hix,ec1,ed1,ed2,ed3,ed4,ec2,fun S=>⟨ah hyi,ah id1,ah id2,ah id3,ah ic1,ah ic2,ah hl⟩,c3,c4,ec3,ec4,fun S=>ah ic3,⟨p,c4,ps,_,rfl,hp,ic4,n1,nc4 (nc3 (nc1 n2) rfl) (nc2 n2),b1,by simp only[List.length_append,l1,l2,List.length_cons,List.length_nil]; omega,t1,fun z hz=>?_⟩⟩
 rcases List.mem_append.mp hz with hz|hz
 ·rcases List.mem_append.mp hz with hz|hz
  ·exact t2 z (c5 hz)
  ·rw[List.mem_singleton.mp hz]
   refine ⟨jE id4 zqS fun w hw=>?_,a,b,c,d,e,days,g,by rw[id4]; rfl⟩
   simp only[List.cons_append,List.nil_append,List.mem_cons,List.not_mem_nil,or_false] at hw
   rcases hw with rfl|rfl|rfl|rfl|rfl|rfl|rfl
   ·exact hyt _ zqS
   ·exact hyt _ zqS
   ·exact hyt _ zqS
   ·exact hyt _ zqS
   ·exact hyt _ zqS
   ·exact hd
   ·exact hyt _ zqS
 ·exact t2 z (c5 hz)
/-- the net with another place -/
theorem pI {v c:Int} {p l:D} {ps ls:List D} (hi:aj x=some [p,l]) (hp:aj p=some ps) (hl:aj l=some ls) (n1:NT p=true) (n2:NT l=true) (b1:0<ps.length∧ps.length≤13) (b2:0<ls.length∧ls.length≤61)
  (t1:∀y∈ps,ax 62 2 y=true∧∃a b,aj y=some [a,b]) (t2:∀y∈ls,ax 62 2 y=true∧∃a b c d e f g,aj y=some [a,b,c,d,e,f,g]) (hv:0≤v∧v<ps.length) :
  ∃y a c1 c2,(∀S,fIx S p (.int v)=some y)∧(∀S,fIx S y (.int 0)=some a)∧fO p none (some v)=some c1∧fO p (some (v+1)) none=some c2∧(∀S,view0 S c1=c1∧view0 S c2=c2∧view0 S p=p)∧
   ∃c3 c4,bU c1 (.tpn [.tpn [a,.int c]])=some c3∧bU c3 c2=some c4∧(∀S,view0 S c3=c3)∧Sh (.tpn [c4,l]):=by
 have hlt:v.toNat<ps.length:=zqO
 have hy:=t1 _ (List.getElem_mem hlt)
 have hix:∀S,fIx S p (.int v)=some ps[v.toNat]:=fun S=>by
  have:=cD (S:=S) hp (i:=v.toNat) hlt
  rw[show ((v.toNat:Nat):Int)=v by omega] at this
  exact this
 generalize ps[v.toNat]=y at hy hix
 obtain ⟨ty,a,b,hyi⟩:=hy
 have hyt:=(qX ty hyi).2
 obtain ⟨c1,ec1,ic1,nc1⟩:=eW hp none (some v)
 obtain ⟨c2,ec2,ic2,nc2⟩:=eW hp (some (v+1)) none
 have k1:v=((v.toNat:Nat):Int):=zqO
 have k2:v+1=((v.toNat+1:Nat):Int):=zqO
 have l1:(cM ps none (some v)).length=v.toNat:=by rw[k1,fz,List.length_take]; omega
 have l2:(cM ps (some (v+1)) none).length=ps.length - (v.toNat+1):=by rw[k2,ir,List.length_drop]
 obtain ⟨c3,ec3,ic3,nc3⟩:=di (b:=.tpn [.tpn [a,.int c]]) (ys:=[.tpn [a,.int c]]) ic1 rfl (by simp; omega)
 obtain ⟨c4,ec4,ic4,nc4⟩:=di ic3 ic2 (by simp; omega)
 refine ⟨y,a,c1,c2,hix,fun S=>cD (S:=S) hyi (i:=0) zqS,ec1,ec2,fun S=>⟨ah ic1,ah ic2,ah hp⟩,c3,c4,ec3,ec4,fun S=>ah ic3,⟨c4,l,_,ls,rfl,ic4,hl,nc4 (nc3 (nc1 n1) rfl) (nc2 n1),n2,by simp only[List.length_append,l1,l2,List.length_cons,List.length_nil]; omega,b2,fun z hz=>?_,t2⟩⟩
 rcases List.mem_append.mp hz with hz|hz
 ·rcases List.mem_append.mp hz with hz|hz
  ·exact t1 z (c5 hz)
  ·rw[List.mem_singleton.mp hz]
   refine ⟨sT zqS fun w hw=>?_,a,.int c,rfl⟩
   simp only[List.mem_cons,List.not_mem_nil,or_false] at hw
   rcases hw with rfl|rfl
   ·exact hyt _ zqS
   ·exact fK _ _
 ·exact t1 z (c5 hz)
end
theorem sU (sc:List Int):Res.wp (oo [.ro (sc.map .int)] []) (fun v _=>v=.bool true) NoE:=by
 unfold oo
 apply bO
 unfold b_law
 simp -dsimp
 refine ud fun o1 d1=>?_
 simp -dsimp [dO]
 refine fw (f:=fun i:Nat=>D.int i) (List.range 5) (fun _ _=>FrN sc [some (.ro (sc.map .int)),some (.loc 0)] 16) (by rfl) ⟨o1,[],[_,_,_,_,_,_,_,_,_,_,_,_,_,_,_,_],d1,rfl,rfl,rfl⟩ ?_ ?_
 ·rintro pre i rest env S hpre ⟨o2,T,tail,d2,ht,rfl,rfl⟩
  obtain ⟨x2,x3,tail,rfl,ht2⟩:∃a b t,tail=a::b::t∧t.length=14:=by
   match tail,ht with
   | a::b::t,h=>exact ⟨a,b,t,rfl,by simpa using h⟩
  obtain ⟨x4,x5,x6,x7,x8,x9,x10,x11,x12,x13,x14,x15,x16,x17,rfl⟩:=ln14 ht2
  refine ⟨([some (.ro (sc.map .int)),some (.loc 0),some (.int i),x3,x4,x5,x6,x7,x8,x9,x10,x11,x12,x13,x14,x15,x16,x17],o2::T),rfl,?_⟩
  simp -dsimp [-wq_eIf,-eIf_at]
  refine dN (Q:=fun x S'=>Sh x∧∃o' T',Dr sc o'∧S'=o'::T') (E:=NoE) ?_ ?_ (fun _ _ z=>z.elim)
  ·simp -dsimp
   refine aQ d2 zqO zqO fun v o3 d3 v1 v2=>?_
   by_cases hv:0<v
   ·simp -dsimp [hv]
    exact wp_net d3 fun ps ls o' j H d'=>⟨net_sh H,o',_,d',rfl⟩
   ·simp -dsimp [hv]
    exact uo d3 fun x o' T' hx d'=>⟨hx,o',T',d',rfl⟩
  rintro x S' ⟨hx,o3,T3,d3,rfl⟩
  simp -dsimp [-uL,-tj]
  refine oJ (N:=Pn Sh sc [some (.ro (sc.map .int)),some (.loc 0),some (.int i)]) (R:=fun _ _=>False) (E:=NoE) (B:=NoB) (C:=NoB) ?_ ?_ (fun _ _ z=>z.elim) (fun _ _ z=>z.elim) (fun _ _ z=>z.elim) (fun _ _ z=>z.elim)
  ·simp -dsimp
   refine aQ d3 zqO zqO fun v o4 d4 v1 v2=>?_
   by_cases hv:v=0
   ·subst hv
    obtain ⟨p,l,ps,ls,hi,hp,hl,n1,n2,b1,b2,t1,t2⟩:=hx.ex
    have i0:∀S,fIx S x (.int 0)=some p:=fun S=>cD (S:=S) hi (i:=0) zqS
    have i1:∀S,fIx S x (.int 1)=some l:=fun S=>cD (S:=S) hi (i:=1) zqS
    have hln:∀S,b3 S [l]=some (.int ls.length):=fun S=>dP hl S zqO
    simp -dsimp [i1,hln]
    refine aQ d4 zqO zqO fun v o5 d5 w1 w2=>?_
    simp -dsimp
    refine aQ d5 zqO zqO fun y o6 d6 y1 y2=>?_
    simp -dsimp
    refine aQ d6 zqO zqO fun u o7 d7 u1 u2=>?_
    obtain ⟨dd,hdd,hdt⟩:=ot (xs:=[.tpn [.int y,.int y],.tpn [.int (y+1),.int y],.tpn [.int y,.int (y+2)],.tpn [],.tpn [.int y,.int 6],.tpn [.int 0,.int 3,.int 3,.int 6]]) (v:=u) u1 u2 (fun d=>ax 62 1 d=true) (by
     intro d hd
     simp only[List.mem_cons,List.not_mem_nil,or_false] at hd
     rcases hd with rfl|rfl|rfl|rfl|rfl|rfl<;>simp[jc,fK])
    obtain ⟨y',c1,c2,e1,e2,e3,e4,q1,q2,q3,q4,q5,q6,q7,q8,c3,c4,q9,q10,q11,hsh⟩:=wA hi hp hl n1 n2 b1 b2 t1 t2 ⟨w1,w2⟩ hdt
    have q8a:=fun S=>(q8 S).1
    have q8b:=fun S=>(q8 S).2.1
    have q8c:=fun S=>(q8 S).2.2.1
    have q8d:=fun S=>(q8 S).2.2.2.1
    have q8e:=fun S=>(q8 S).2.2.2.2.1
    have q8f:=fun S=>(q8 S).2.2.2.2.2.1
    have q8g:=fun S=>(q8 S).2.2.2.2.2.2
    simp -dsimp [hdd,i0,i1,q1,q2,q3,q4,q5,q6,q7,q8a,q8b,q8c,q8d,q8e,q8f,q8g,q9,q10,q11]
    exact ⟨o7,T3,_,[_,_,_,_,_,_,_,_,_,_,_,_,_,_],d7,hsh,rfl,rfl,rfl⟩
   ·simp -dsimp [hv]
    exact ⟨o4,T3,_,[_,_,_,_,_,_,_,_,_,_,_,_,_,_],d4,hx,rfl,rfl,rfl⟩
  ·clear hx d3
   rintro env S ⟨o3,T3,x,tail,d3,hx,ht,rfl,rfl⟩
   obtain ⟨x4,x5,x6,x7,x8,x9,x10,x11,x12,x13,x14,x15,x16,x17,rfl⟩:=ln14 ht
   simp -dsimp [-uL,-tj]
   refine oJ (N:=Pn Sh sc [some (.ro (sc.map .int)),some (.loc 0),some (.int i)]) (R:=fun _ _=>False) (E:=NoE) (B:=NoB) (C:=NoB) ?_ ?_ (fun _ _ z=>z.elim) (fun _ _ z=>z.elim) (fun _ _ z=>z.elim) (fun _ _ z=>z.elim)
   ·simp -dsimp
    refine aQ d3 zqO zqO fun v o4 d4 v1 v2=>?_
    by_cases hv:v=0
    ·subst hv
     obtain ⟨p,l,ps,ls,hi,hp,hl,n1,n2,b1,b2,t1,t2⟩:=hx.ex
     have i0:∀S,fIx S x (.int 0)=some p:=fun S=>cD (S:=S) hi (i:=0) zqS
     have i1:∀S,fIx S x (.int 1)=some l:=fun S=>cD (S:=S) hi (i:=1) zqS
     have hln:∀S,b3 S [p]=some (.int ps.length):=fun S=>dP hp S zqO
     simp -dsimp [i0,hln]
     refine aQ d4 zqO zqO fun v o5 d5 w1 w2=>?_
     obtain ⟨y',a,c1,c2,q1,q2,q3,q4,q5,q6⟩:=pI (c:=0) hi hp hl n1 n2 b1 b2 t1 t2 ⟨w1,w2⟩
     simp -dsimp [i0,q1,q2]
     refine aQ d5 zqO zqO fun u o6 d6 u1 u2=>?_
     obtain ⟨dd,hdd,cc,rfl⟩:=ot (xs:=[.int 9,.int 10,.int 300,.int 301]) (v:=u) u1 u2 (fun d=>∃c,d=.int c) (by
      intro d hd
      simp only[List.mem_cons,List.not_mem_nil,or_false] at hd
      rcases hd with rfl|rfl|rfl|rfl<;>exact ⟨_,rfl⟩)
     clear q6
     obtain ⟨y2,a2,c1b,c2b,r1,r2,r3,r4,r5,c3,c4,r6,r7,r8,hsh⟩:=pI (c:=cc) hi hp hl n1 n2 b1 b2 t1 t2 ⟨w1,w2⟩
     obtain rfl:y'=y2:=Option.some.inj ((q1 []).symm.trans (r1 []))
     obtain rfl:a=a2:=Option.some.inj ((q2 []).symm.trans (r2 []))
     have r5a:=fun S=>(r5 S).1
     have r5b:=fun S=>(r5 S).2.1
     have r5c:=fun S=>(r5 S).2.2
     simp -dsimp [hdd,i0,i1,r3,r4,r5a,r5b,r5c,r6,r7,r8]
     exact ⟨o6,T3,_,[_,_,_,_,_,_,_,_,_,_,_,_,_,_],d6,hsh,rfl,rfl,rfl⟩
    ·simp -dsimp [hv]
     exact ⟨o4,T3,_,[_,_,_,_,_,_,_,_,_,_,_,_,_,_],d4,hx,rfl,rfl,rfl⟩
   ·clear hx d3
    rintro env S ⟨o3,T3,x,tail,d3,hx,ht,rfl,rfl⟩
    obtain ⟨x4,x5,x6,x7,x8,x9,x10,x11,x12,x13,x14,x15,x16,x17,rfl⟩:=ln14 ht
    simp -dsimp
    refine aQ d3 zqO zqO fun w o4 d4 w1 w2=>?_
    have hs:bN w=true:=fe zqO
    simp -dsimp [hs,dO]
    refine fw (f:=fun i:Nat=>D.int i) (List.range w.toNat) (fun pre _=>Pn (fun y=>ax (62+pre.length) (4+pre.length) y=true∧PT y=true) sc [some (.ro (sc.map .int)),some (.loc 0),some (.int i)]) zqS ⟨o4,T3,x,[_,_,_,_,_,_,_,_,_,_,_,_,_,_],d4,hx.tl,rfl,rfl,rfl⟩ ?_ ?_
    ·clear hx d3 d4
     rintro pre2 j rest2 env S hp2 ⟨o3,T3,x,tail,d3,⟨tx,px⟩,ht,rfl,rfl⟩
     obtain ⟨x4,x5,x6,x7,x8,x9,x10,x11,x12,x13,x14,x15,x16,x17,rfl⟩:=ln14 ht
     obtain ⟨rfl,hlt⟩:=qU hp2
     have hm2:pre2.length<2:=zqO
     refine ⟨_,rfl,?_⟩
     simp -dsimp
     refine dN (pF (4+pre2.length) 8 x o3 T3 zqO zqO tx zqO zqO d3) ?_ (fun _ _ z=>z.elim)
     rintro x2 S' ⟨⟨tx2,_,px2⟩,o7,d7,rfl⟩
     simp -dsimp
     exact ⟨o7,T3,x2,[_,_,_,_,_,_,_,_,_,_,_,_,_,_],d7,⟨tx2,px2 px⟩,rfl,rfl,rfl⟩
    ·clear hx d3 d4
     rintro env S ⟨o3,T3,x,tail,d3,⟨tx,px⟩,ht,rfl,rfl⟩
     obtain ⟨x4,x5,x6,x7,x8,x9,x10,x11,x12,x13,x14,x15,x16,x17,rfl⟩:=ln14 ht
     rw[List.length_range] at tx
     have hx:bc 8 x=true:=hO zqO (hQ zqO tx)
     simp -dsimp [qV hx]
     obtain ⟨X,e⟩:=v9 (S:=o3::T3) (d:=x) (a0:=some (.ro (sc.map .int))) (a1:=some (.loc 0)) (a2:=some (.int i)) (a4:=x4) (a5:=x5) (a6:=x6) (a7:=x7) (a8:=x8) (a10:=x10) (a11:=x11) (a12:=x12) (a13:=x13) (a14:=x14) (a15:=x15) (a16:=x16) (a17:=x17) hx px
     rw[e]
     simp -dsimp
     exact ⟨o3,_,[_,_,_,_,_,_,_,_,_,_,_,_,_,_,_,_],d3,rfl,rfl,rfl⟩
 ·rintro env S ⟨o2,T,tail,d2,ht,rfl,rfl⟩
  simp -dsimp
theorem hFx {K:PySem.W.Frag} {w:World} {h:Heap} {mg:Str→Option Value} (X:K.In h) (G:h.Ns mainGlobals mg) (c:He.SaysX hAll hFn qd hTf hEx w h K):Fx K mg where
 jaA:=He.noat_ok (c.t.d.fact 0 (f:=.noat "Net" "changes") rfl)
 jaB:=He.noat_ok (c.t.d.fact 1 (f:=.noat "Net" "legs") rfl)
 jaC:=He.cls_ok (c.t.d.fact 2 (f:=.cls "Net") rfl)
 jaD:=He.glo_ok X G (c.t.d.fact 3 (f:=.glo "AirError") rfl)
 jaE:=He.glo_ok X G (c.t.d.fact 4 (f:=.glo "BadChain") rfl)
 jaF:=He.glo_ok X G (c.t.d.fact 5 (f:=.glo "BadClasses") rfl)
 jaG:=He.glo_ok X G (c.t.d.fact 6 (f:=.glo "BadCount") rfl)
 jaH:=He.glo_ok X G (c.t.d.fact 7 (f:=.glo "BadDay") rfl)
 jaI:=He.glo_ok X G (c.t.d.fact 8 (f:=.glo "BadDeed") rfl)
 jaJ:=He.glo_ok X G (c.t.d.fact 9 (f:=.glo "BadFleet") rfl)
 jaK:=He.glo_ok X G (c.t.d.fact 10 (f:=.glo "BadName") rfl)
 jaL:=He.glo_ok X G (c.t.d.fact 11 (f:=.glo "BadNet") rfl)
 jaM:=He.glo_ok X G (c.t.d.fact 12 (f:=.glo "BadPlace") rfl)
 jaN:=He.glo_ok X G (c.t.d.fact 13 (f:=.glo "BadText") rfl)
 jaO:=He.glo_ok X G (c.t.d.fact 14 (f:=.glo "BadTime") rfl)
 jaP:=He.glo_ok X G (c.t.d.fact 15 (f:=.glo "CannotFly") rfl)
 jaQ:=He.glo_ok X G (c.t.d.fact 16 (f:=.glo "Left") rfl)
 jaR:=He.glo_ok X G (c.t.d.fact 17 (f:=.glo "Net") rfl)
 jaS:=He.glo_ok X G (c.t.d.fact 18 (f:=.glo "NoBooking") rfl)
 jaT:=He.glo_ok X G (c.t.d.fact 19 (f:=.glo "NoClass") rfl)
 jaU:=He.glo_ok X G (c.t.d.fact 20 (f:=.glo "NoDuty") rfl)
 jaV:=He.glo_ok X G (c.t.d.fact 21 (f:=.glo "NoKind") rfl)
 jaW:=He.glo_ok X G (c.t.d.fact 22 (f:=.glo "NoLeg") rfl)
 jaX:=He.glo_ok X G (c.t.d.fact 23 (f:=.glo "NoPlane") rfl)
 jaY:=He.glo_ok X G (c.t.d.fact 24 (f:=.glo "NoSeat") rfl)
 jaZ:=He.glo_ok X G (c.t.d.fact 25 (f:=.glo "NoWay") rfl)
 ja0:=He.glo_ok X G (c.t.d.fact 26 (f:=.glo "Taken") rfl)
 ja1:=He.glo_ok X G (c.t.d.fact 27 (f:=.glo "Unmended") rfl)
 ja2:=He.glo_ok X G (c.t.d.fact 28 (f:=.glo "_law_bad") rfl)
 ja3:=He.glo_ok X G (c.t.d.fact 29 (f:=.glo "_law_drawn") rfl)
 ja4:=He.glo_ok X G (c.t.d.fact 30 (f:=.glo "_law_great") rfl)
 ja5:=He.glo_ok X G (c.t.d.fact 31 (f:=.glo "_law_is") rfl)
 ja6:=He.glo_ok X G (c.t.d.fact 32 (f:=.glo "_law_is_leg") rfl)
 ja7:=He.glo_ok X G (c.t.d.fact 33 (f:=.glo "_law_is_place") rfl)
 ja8:=He.glo_ok X G (c.t.d.fact 34 (f:=.glo "_law_kind") rfl)
 ja9:=He.glo_ok X G (c.t.d.fact 35 (f:=.glo "_law_net") rfl)
 jbA:=He.glo_ok X G (c.t.d.fact 36 (f:=.glo "_law_other") rfl)
 jbB:=He.glo_ok X G (c.t.d.fact 37 (f:=.glo "_law_shuttle") rfl)
 jbC:=He.glo_ok X G (c.t.d.fact 38 (f:=.glo "_law_start") rfl)
 jbD:=He.glo_ok X G (c.t.d.fact 39 (f:=.glo "are_days") rfl)
 jbE:=He.glo_ok X G (c.t.d.fact 40 (f:=.glo "cut") rfl)
 jbF:=He.glo_ok X G (c.t.d.fact 41 (f:=.glo "dated") rfl)
 jbG:=He.glo_ok X G (c.t.d.fact 42 (f:=.glo "fewest") rfl)
 jbH:=He.glo_ok X G (c.t.d.fact 43 (f:=.glo "is_leg") rfl)
 jbI:=He.glo_ok X G (c.t.d.fact 44 (f:=.glo "is_number") rfl)
 jbJ:=He.glo_ok X G (c.t.d.fact 45 (f:=.glo "is_place") rfl)
 jbK:=He.glo_ok X G (c.t.d.fact 46 (f:=.glo "is_word") rfl)
 jbL:=He.glo_ok X G (c.t.d.fact 47 (f:=.glo "need_days") rfl)
 jbM:=He.glo_ok X G (c.t.d.fact 48 (f:=.glo "need_net") rfl)
 jbN:=He.glo_ok X G (c.t.d.fact 49 (f:=.glo "need_place") rfl)
 jbO:=He.glo_ok X G (c.t.d.fact 50 (f:=.glo "need_rides") rfl)
 jbP:=He.glo_ok X G (c.t.d.fact 51 (f:=.glo "need_turn") rfl)
 jbQ:=He.glo_ok X G (c.t.d.fact 52 (f:=.glo "shown_planes") rfl)
 jbR:=He.glo_ok X G (c.t.d.fact 53 (f:=.glo "times") rfl)
 jbS:=He.glo_ok X G (c.t.d.fact 54 (f:=.glo "ways") rfl)
 jbU:=He.int_ok X G (c.t.d.fact 55 (f:=.int "DAY" 1440) rfl)
 jbV:=He.int_ok X G (c.t.d.fact 56 (f:=.int "LEAST_CHANGE" 10) rfl)
 jbW:=He.int_ok X G (c.t.d.fact 57 (f:=.int "LEAST_LONG" 20) rfl)
 jbX:=He.int_ok X G (c.t.d.fact 58 (f:=.int "LEAST_TURN" 10) rfl)
 jbY:=He.int_ok X G (c.t.d.fact 59 (f:=.int "MOST_CHANGE" 300) rfl)
 jbZ:=He.int_ok X G (c.t.d.fact 60 (f:=.int "MOST_DAY" 60) rfl)
 jb0:=He.int_ok X G (c.t.d.fact 61 (f:=.int "MOST_FARE" 100000) rfl)
 jb1:=He.int_ok X G (c.t.d.fact 62 (f:=.int "MOST_LEGS" 60) rfl)
 jb2:=He.int_ok X G (c.t.d.fact 63 (f:=.int "MOST_LONG" 900) rfl)
 jb3:=He.int_ok X G (c.t.d.fact 64 (f:=.int "MOST_NUMBER" 9999) rfl)
 jb4:=He.int_ok X G (c.t.d.fact 65 (f:=.int "MOST_PLACES" 12) rfl)
 jb5:=He.int_ok X G (c.t.d.fact 66 (f:=.int "MOST_TURN" 300) rfl)
 jb6:=He.int_ok X G (c.t.d.fact 67 (f:=.int "PLACE_SIZE" 3) rfl)
 jb7:=He.int_ok X G (c.t.d.fact 68 (f:=.int "WEEK" 7) rfl)
 jb8:=He.mkr_ok (c.t.d.fact 69 (f:=.mkr "Net") rfl)
 jb9:=He.meth_ok (c.t.d.fact 70 (f:=.meth "Net" "goes") rfl)
 jcA:=He.meth_ok (c.t.d.fact 71 (f:=.meth "Net" "need_ride") rfl)
 jcB:=He.free_ok X G (c.t.d.fact 72 (f:=.free "ValueError") rfl)
 jcC:=He.free_ok X G (c.t.d.fact 73 (f:=.free "all") rfl)
 jcD:=He.free_ok X G (c.t.d.fact 74 (f:=.free "bool") rfl)
 jcE:=He.free_ok X G (c.t.d.fact 75 (f:=.free "dict") rfl)
 jcF:=He.free_ok X G (c.t.d.fact 76 (f:=.free "enumerate") rfl)
 jcG:=He.free_ok X G (c.t.d.fact 77 (f:=.free "int") rfl)
 jcH:=He.free_ok X G (c.t.d.fact 78 (f:=.free "isinstance") rfl)
 jcI:=He.free_ok X G (c.t.d.fact 79 (f:=.free "len") rfl)
 jcJ:=He.free_ok X G (c.t.d.fact 80 (f:=.free "list") rfl)
 jcK:=He.free_ok X G (c.t.d.fact 81 (f:=.free "range") rfl)
 jcL:=He.free_ok X G (c.t.d.fact 82 (f:=.free "set") rfl)
 jcM:=He.free_ok X G (c.t.d.fact 83 (f:=.free "sorted") rfl)
 jcN:=He.free_ok X G (c.t.d.fact 84 (f:=.free "str") rfl)
 jcO:=He.free_ok X G (c.t.d.fact 85 (f:=.free "tuple") rfl)
 jcP:=He.free_ok X G (c.t.d.fact 86 (f:=.free "zip") rfl)
 jcQ:=He.str_ok X G (c.t.d.fact 87 (f:=.str "LETTERS" "abcdefghijklmnopqrstuvwxyz") rfl)
 jcR:=il (c.t.d.fact 88 (f:=.exc "BadChain") rfl)
 jcS:=il (c.t.d.fact 89 (f:=.exc "BadCount") rfl)
 jcT:=il (c.t.d.fact 90 (f:=.exc "BadDay") rfl)
 jcU:=il (c.t.d.fact 91 (f:=.exc "BadPlace") rfl)
 jcV:=il (c.t.d.fact 92 (f:=.exc "NoLeg") rfl)
 jbT:=uG (He.ba (He.ba c.more).2).1
theorem hGx {P:Program} {K:PySem.W.Frag} {w:World} {h base:Heap} {mg:Str→Option Value} (X:K.In h) (G:h.Ns mainGlobals mg) (c:He.SaysX hAll hFn qd hTf hEx w h K) (tb:∀p∈hTf.map (He.cT K),TabB base mg p.1 p.2):Gx P w K mg base where
 fx:=hFx X G c
 kx:=rm X G (He.ba (He.ba c.more).1).1 (fun y hy=>c.t.d.facts (List.mem_append_right hPA (List.mem_append_right _ (List.mem_append_left _ (List.mem_append_left _ (List.mem_map.mpr ⟨y,hy,rfl⟩))))))
  (c.t.d.facts (List.mem_append_right hPA (List.mem_append_right _ (List.mem_append_left _ (List.mem_append_right _ (List.mem_singleton.mpr rfl)))))) (fun C hC=>c.t.d.facts (List.mem_append_right hPA (List.mem_append_right _ (List.mem_append_right _ (List.mem_map.mpr ⟨C,hC,rfl⟩)))))
 tb:=fun p hp=>tb _ (List.mem_map.mpr ⟨p.1,List.mem_map.mpr ⟨p,hp,rfl⟩,rfl⟩)
 tm:=(l0 (He.ba (He.ba c.more).1).2).1
 tu:=(l0 (He.ba (He.ba c.more).1).2).2
 jcW:=c.t.d.def_ 0 (d:=jbI) rfl
 jcX:=c.t.d.def_ 1 (d:=jbL) rfl
 jcY:=c.t.d.def_ 2 (d:=jbD) rfl
 jcZ:=c.t.d.def_ 3 (d:=jbH) rfl
 jc0:=c.t.d.def_ 4 (d:=f8) rfl
 jc1:=c.t.d.def_ 5 (d:=jbK) rfl
 jc2:=c.t.d.def_ 6 (d:=jbJ) rfl
 jc3:=c.t.d.def_ 7 (d:=jbM) rfl
 jc4:=c.t.d.def_ 8 (d:=iV) rfl
 jc5:=c.t.d.def_ 9 (d:=jbF) rfl
 jc6:=c.t.d.def_ 10 (d:=kE) rfl
 jc7:=c.t.d.def_ 11 (d:=f9) rfl
 jc8:=c.t.d.def_ 12 (d:=jbR) rfl
 jc9:=c.t.d.def_ 13 (d:=jbN) rfl
 jdA:=c.t.d.def_ 14 (d:=jbS) rfl
 jdB:=c.t.d.def_ 15 (d:=jbP) rfl
 jdC:=c.t.d.def_ 16 (d:=jbG) rfl
 jdD:=c.t.d.def_ 17 (d:=jbQ) rfl
 jdE:=c.t.d.def_ 18 (d:=jbO) rfl
 jdF:=c.t.d.def_ 19 (d:=jbE) rfl
 jdG:=c.t.d.def_ 20 (d:=kF) rfl
 jdH:=c.t.d.def_ 21 (d:=nP) rfl
 jdI:=c.t.d.def_ 22 (d:=iW) rfl
 jdJ:=c.t.d.def_ 23 (d:=gJ) rfl
 jdK:=c.t.d.def_ 24 (d:=li) rfl
 jdL:=c.t.d.def_ 25 (d:=jd) rfl
 jdM:=c.t.d.def_ 26 (d:=je) rfl
 jdN:=c.t.d.def_ 27 (d:=iE) rfl
 jdO:=c.t.d.def_ 28 (d:=lj) rfl
 jdP:=c.t.d.def_ 29 (d:=jf) rfl
 jdQ:=c.t.d.def_ 30 (d:=jg) rfl
 jdR:=c.t.d.def_ 31 (d:=se) rfl
/-- THE ROW,from what the law's mirror gives at each script -/
theorem row_of (hLaw:∀ns:List Int,ns.length≤63→(∀z∈ns,Builtin.Int.intBits z≤1048576)→∃S,oo [.ro (ns.map .int)] []=.ok (.bool true) S):PySem.Challenge.rw_airhouse_k01_nets_refused.Holds:=by
 refine sf ?_
 refine LamX.walk_ofTsE (l:=PySem.Challenge.rw_airhouse_k01_nets_refused) (n:=63) (k:=11) (x:="_law_script") (CX:=fun w=>L2N.CX PySem.Challenge.rw_airhouse_k01_nets_refused.prog w) hMost zqC hDf ⟨rfl,by decide,by decide⟩ ?F (fun _ _ _ _ _ z=>th z)
 intro w mg fa h Y G hmg0
 obtain ⟨K,KX,c⟩:=Y
 have hmg:mg ("law":PySem.Str)=some (.ref fa):=by
  have e:=hNm
  rw[←e]
  exact hmg0
 obtain ⟨fd,F⟩:=c.t.d.def_ 31 (d:=se) rfl
 have e:=hmg.symm.trans (He.glo_ok KX G (c.t.d.fact 93 (f:=.glo "law") rfl))
 cases e
 have b:=FunD.bindsA (ps:=["_law_script"]) F fun _ _ _ _ _ _ us hl=>match us,hl with|[_],_=>rfl
 refine ⟨K,KX,fd,hTf.map (He.cT K),spD K mg 1 oo,fun p hp=>?_,fun p hp=>?_,fun p hp=>?_,fun s v=>b s [v] rfl,fun H a ns hl hbits hH hS=>?_,fun base KB GB TB=>(ok_law (hGx KX G c TB) F).ok⟩
 ·obtain ⟨q,hq,rfl⟩:=List.mem_map.mp hp
  exact c.empty q hq
 ·obtain ⟨q,hq,rfl⟩:=List.mem_map.mp hp
  exact c.out q hq
 ·obtain ⟨q,hq,rfl⟩:=List.mem_map.mp hp
  exact PySem.W.codeHd_of_K KX (c.hd q hq)
 ·refine ti hS (fun p hp=>?_) (hLaw ns hl hbits)
  obtain ⟨q,hq,rfl⟩:=List.mem_map.mp hp
  exact hH (He.cT K q.1) (List.mem_map.mpr ⟨q.1,List.mem_map.mpr ⟨q,hq,rfl⟩,rfl⟩)
theorem uv {α:Type} {r:Res α} {v:α} (h:Res.wp r (fun a _=>a=v) NoE):∃S,r=.ok v S:=by
 cases r with
 | ok a S=>rw[fc] at h; exact ⟨S,by rw[h]⟩
 | exc e S=>simp at h
 | stuck=>simp at h
end DL
open DL in
theorem PySem.Challenge.cw_airhouse_k01_nets_refused_holds : PySem.Challenge.rw_airhouse_k01_nets_refused.Holds := by
  exact row_of fun ns _ _ => uv (sU ns)
