import PyProof.Rows.All
import Wide.All
import OpenK.AllK
import Wide.FinOn
import HandS.Lambda
import HandS.HeadHook4
import HandS.Words
import KE.KStateDown
import HandS.Head0
import HandS.Head1
import HandS.Head2
import HandS.HeadEnd
import HandS.HeadWalk
import HandS.ForMost
import HandS.ForExc
import HandS.TupAny
import HandS.Flow
import HandS.Deep
import HandS.Zip
import KE.GoesEnum
import HandS.ExcCtx
import HandS.ExcInit
import HandS.CallSlots
import HandS.IsInst
import KE.SortData
import HandS.Small
import HandS.Style
import HandS.DictComp
import KE.KDictPairs
import HandS.SortInts
import HandS.ExcOwn
import HandS.ExcIs
import HandS.ExcField
import OpenK.KDescr
import HandS.Defaults
import KE.SortKeyHeap
import HandS.SortKw
import HandS.Iter
import HandS.Comp
import HandS.RaiseMore
import HandS.SetKeys
import HandS.MakeKwOnly
import KE.DataMinMax
import KE.KLam
import HandS.Exc
import HandS.ClsMeth
import PyProof.MaxThree
import HandS.Flt
import HandS.ListItems
import HandS.DictTup
import HandS.Strs
import HandS.TryOnly
import HandS.More
import PyProof.Rows.StrMeet
import HandS.Finally
import HandS.SuiteRaise
import HandS.HotCalls
import HandS.Hot
import PyProof.CollectIter
import HandS.HeadHook3
import KE.KDictCopyH
import PyProof.NeKinds
import HandS.NoneIn
import HandS.ListEq
import HandS.DeepEq
import KE.GoesZip
import KE.GoesMore
import KE.KDictZip
import HandS.ExcValue
import HandS.FStr
import HandS.Text
import HandS.TupSets
import KE.KeyNested
import HandS.SetFor
import HandS.TupLen
import PySem.Challenge.RW_airhouse_k36_whole_planes_matched
set_option Elab.async false
set_option linter.all false
namespace DL
open PySem PySem.Spec PyProof.Rows L2
def lamDefs:List ((Str × Option Str) × Str):=[(("Net",some "all_rides"),"Net.all_rides.<locals>.<lambda>")]
/-- their tables of code objects -/
def tbs (K:PySem.W.Frag):List (Addr × Str):=lamDefs.map fun p=>(He.tabOf K (He.codeOf K p.1),p.2)
end DL
set_option maxRecDepth 100000
namespace DL
open PySem PySem.Spec PyProof.Rows L2 LamX
def rK (K:PySem.W.Frag):Bool:=lamDefs.all fun p=>(tbs K).all fun r=>!(decide (r.1=(He.cT K p.1).2))||decide (r.2=p.2)
def clVB (K:PySem.W.Frag) (A:Addr) (m:Str) (v:Value):Bool:=PySem.W.readsIn K A (.type "type")&&He.eqO (PySem.W.specialIn K (.ref A) "__getattribute__") (some (some (.builtin "type.__getattribute__"))) &&
  (match PySem.W.findCls K (.ref A) (.type "type") m with
  | some (.val u)=>decide (u=v)
  | _=>false)
def oexB (K:PySem.W.Frag) (C:Addr):Bool:=(match K.lookup C with
  | some ⟨.type "type",_,.cls cd,sl⟩=>(match cd.mro,sl.toList with
    | .ref C'::bm,[_,_,_,_,some (.builtin n),_]=>C' == C&&n == "ValueError.__new__"&&!cd.hasDel&&cd.hasDict&&PySem.HandSPX.refsVE bm
    | _,_=>false)
  | _=>false)&&He.eqO (PySem.W.findIn K (.ref C) "__setattr__") (some (some (.builtin "object.__setattr__")))&&decide (PySem.W.subIn K (.ref C) (.type "BaseException")=some true)&&decide (PySem.W.typeIn K (.ref C)=some (.type "type"))&&PySem.W.keepIn K (.ref C)
def u6 (K:PySem.W.Frag) (C fI A:Addr) (ns:List Str):Bool:=oexB K C&&He.eqO (PySem.W.findIn K (.ref C) "__init__") (some (some (.ref fI)))&&decide (PySem.W.typeIn K (.ref fI)=some (.type "function")) &&
  (ns.all fun n=>He.eqO (PySem.W.findIn K (.ref C) n) (some none))&&clVB K A "__init__" (.builtin "ValueError.__init__")
end DL
namespace DL
open PySem
end DL
namespace DL
open PySem PySem.Spec PyProof.Rows L2 He
def valsF (g:Addr→Option Obj) (n:Addr):List Addr:=match g n with
  | some ⟨_,_,.dict es _,_⟩=>es.toList.flatMap fun e=>refV e.val
  | _=>[]
def nsF (g:Addr→Option Obj) (a:Addr):List Addr:=match g a with
  | some ⟨_,_,.cls cd,_⟩=>[cd.ns]
  | _=>[]
def cdF (g:Addr→Option Obj) (a:Addr):List Addr:=match g a with
  | some ⟨_,_,.func fd,_⟩=>refV fd.code++(refV fd.kwdefaults++refV fd.defaults)
  | _=>[]
def asF (g:Addr→Option Obj):List Addr:=
  (fun gl=>(fun ns=>(fun ms=>mainGlobals::cStatics::(gl++(ns++(ms++(gl++ms).flatMap (cdF g))))) (ns.flatMap (valsF g))) (gl.flatMap (nsF g))) (valsF g mainGlobals)
def obsF (fa:List Fa) (fn:List DefD) (ts:List Tab) (tf:List Defn) (ex:PySem.W.Frag→Bool) (g:Addr→Option Obj):AlX:=(fun K=>(obsT fa fn ts K,ex K&&tabsB g tf K)) (frT g (asF g))
theorem u7 {fa:List Fa} {fn:List DefD} {ts:List Tab} {tf:List Defn} {ex:PySem.W.Frag→Bool} {w:World} {h:Heap} (e:obsF fa fn ts tf ex h.get?=valX fn ts w):SaysX fa fn ts tf ex w h (frT h.get? (asF h.get?)):=by
  have e1:obsT fa fn ts (frT h.get? (asF h.get?))=valT fn ts w:=congrArg (fun z:AlX=>z.1) e
  have e2:(ex (frT h.get? (asF h.get?))&&tabsB h.get? tf (frT h.get? (asF h.get?)))=true:=congrArg (fun z:AlX=>z.2) e
  obtain ⟨h1,h2⟩:=ba e2
  have key:∀p∈tf,PySem.W.codeHdIn (frT h.get? (asF h.get?)) (cT (frT h.get? (asF h.get?)) p).1 (cT (frT h.get? (asF h.get?)) p).2=true∧∃o,h.get? (cT (frT h.get? (asF h.get?)) p).2=some o∧emptyTab o=true:=fun p hp=>by
    obtain ⟨h3,h4⟩:=ba (List.all_eq_true.mp h2 p hp)
    refine ⟨h3,?_⟩
    cases q:h.get? (cT (frT h.get? (asF h.get?)) p).2 with
    | none=>
      rw[q] at h4
      cases h4
    | some o=>
      rw[q] at h4
      exact ⟨o,rfl,h4⟩
  exact ⟨e1,h1,fun p hp=>(key p hp).1,fun p hp=>by
    obtain ⟨_,o,q,z⟩:=key p hp
    exact frT_none q z,fun p hp=>by
    obtain ⟨_,o,q,z⟩:=key p hp
    rw[q,emptyTab_eq z]⟩
def hookF (fa:List Fa) (fn:List DefD) (ts:List Tab) (tf:List Defn) (ex:PySem.W.Frag→Bool):PySem.W.Hook where
  α:=AlX
  obs:=fun s=>obsF fa fn ts tf ex s.heap.get?
  val:=fun w=>valX fn ts w
  says:=fun w h=>∃K:PySem.W.Frag,K.In h∧SaysX fa fn ts tf ex w h K
  of:=fun _ _ e=>⟨_,frT_in,u7 e⟩
  keeps:=fun _ _ _ ⟨K,hK,c⟩ k=>⟨K,PySem.W.Frag.In.keeps hK k,⟨c.t,c.more,c.hd,c.out,fun p hp=>k _ _ (c.empty p hp)⟩⟩
theorem xD {fa:List Fa} {fn:List DefD} {ts:List Tab} {tf:List Defn} {ex:PySem.W.Frag→Bool} {g:Addr→Option Obj} {s:Shared} (h:∀a,g a=s.heap.get? a):obsF fa fn ts tf ex g=(hookF fa fn ts tf ex).obs s:=by
  have e:g=s.heap.get?:=funext h
  rw[e]<;>rfl
end DL
namespace DL
open PySem PySem.Spec PyProof.Rows L2 LamX
abbrev top (i:Nat):Stmt:=PySem.Challenge.pw_airhouse_k36_whole_planes_matched.main.body.getD i (.Pass ⟨0,0,0,0⟩)
end DL
set_option maxHeartbeats 0
namespace DL
open PySem PySem.Spec PyProof.Rows L2 LamX
def gf:He.DefD:=⟨("Matcher",some "cover"),"cover","Matcher.cover",defArgs (inClass (top 34) 3),defBody (inClass (top 34) 3),defScope (inClass (top 34) 3),[],[]⟩
def fq:He.DefD:=⟨("Matcher",some "chains"),"chains","Matcher.chains",defArgs (inClass (top 34) 2),defBody (inClass (top 34) 2),defScope (inClass (top 34) 2),[],[]⟩
def kQ:He.DefD:=⟨("Net",some "leave"),"leave","Net.leave",defArgs (inClass (top 26) 7),defBody (inClass (top 26) 7),defScope (inClass (top 26) 7),[],[]⟩
def d_is_number:He.DefD:=⟨("is_number",none),"is_number","is_number",defArgs (top 20),defBody (top 20),defScope (top 20),[],[]⟩
def lW:He.DefD:=⟨("Net",some "goes"),"goes","Net.goes",defArgs (inClass (top 26) 1),defBody (inClass (top 26) 1),defScope (inClass (top 26) 1),[],[]⟩
def gg:He.DefD:=⟨("Net",some "all_rides"),"all_rides","Net.all_rides",defArgs (inClass (top 26) 9),defBody (inClass (top 26) 9),defScope (inClass (top 26) 9),[],[]⟩
def gv:He.DefD:=⟨("Matcher",some "grow"),"grow","Matcher.grow",defArgs (inClass (top 34) 1),defBody (inClass (top 34) 1),defScope (inClass (top 34) 1),[],[]⟩
def lX:He.DefD:=⟨("Net",some "long"),"long","Net.long",defArgs (inClass (top 26) 5),defBody (inClass (top 26) 5),defScope (inClass (top 26) 5),[],[]⟩
def jD:He.DefD:=⟨("Net",some "arrive"),"arrive","Net.arrive",defArgs (inClass (top 26) 8),defBody (inClass (top 26) 8),defScope (inClass (top 26) 8),[],[]⟩
def lY:He.DefD:=⟨("Net",some "goal"),"goal","Net.goal",defArgs (inClass (top 26) 4),defBody (inClass (top 26) 4),defScope (inClass (top 26) 4),[],[]⟩
def kR:He.DefD:=⟨("Net",some "start"),"start","Net.start",defArgs (inClass (top 26) 3),defBody (inClass (top 26) 3),defScope (inClass (top 26) 3),[],[]⟩
def d_can_follow:He.DefD:=⟨("can_follow",none),"can_follow","can_follow",defArgs (top 33),defBody (top 33),defScope (top 33),[],[]⟩
def fu:He.DefD:=⟨("Matcher",some "__init__"),"__init__","Matcher.__init__",defArgs (inClass (top 34) 0),defBody (inClass (top 34) 0),defScope (inClass (top 34) 0),[],[]⟩
def d_need_days:He.DefD:=⟨("need_days",none),"need_days","need_days",defArgs (top 27),defBody (top 27),defScope (top 27),[],[]⟩
def d_need_turn:He.DefD:=⟨("need_turn",none),"need_turn","need_turn",defArgs (top 32),defBody (top 32),defScope (top 32),[],[]⟩
def d_are_days:He.DefD:=⟨("are_days",none),"are_days","are_days",defArgs (top 23),defBody (top 23),defScope (top 23),[],[]⟩
def d_is_leg:He.DefD:=⟨("is_leg",none),"is_leg","is_leg",defArgs (top 24),defBody (top 24),defScope (top 24),[],[]⟩
def gh:He.DefD:=⟨("BadNet",some "__init__"),"__init__","BadNet.__init__",defArgs (inClass (top 3) 0),defBody (inClass (top 3) 0),defScope (inClass (top 3) 0),[],[]⟩
def d_is_word:He.DefD:=⟨("is_word",none),"is_word","is_word",defArgs (top 21),defBody (top 21),defScope (top 21),[],[]⟩
def d_is_place:He.DefD:=⟨("is_place",none),"is_place","is_place",defArgs (top 22),defBody (top 22),defScope (top 22),[],[]⟩
def d_need_net:He.DefD:=⟨("need_net",none),"need_net","need_net",defArgs (top 25),defBody (top 25),defScope (top 25),[],[]⟩
def jE:He.DefD:=⟨("Net",some "__init__"),"__init__","Net.__init__",defArgs (inClass (top 26) 0),defBody (inClass (top 26) 0),defScope (inClass (top 26) 0),[],[]⟩
def d_fewest:He.DefD:=⟨("fewest",none),"fewest","fewest",defArgs (top 35),defBody (top 35),defScope (top 35),[],[]⟩
def d_is_end:He.DefD:=⟨("is_end",none),"is_end","is_end",defArgs (top 36),defBody (top 36),defScope (top 36),[],[]⟩
def d_shown_planes:He.DefD:=⟨("shown_planes",none),"shown_planes","shown_planes",defArgs (top 37),defBody (top 37),defScope (top 37),[],[]⟩
def kT:He.DefD:=⟨("_law_leave",none),"_law_leave","_law_leave",defArgs (top 43),defBody (top 43),defScope (top 43),[],[]⟩
def nA:He.DefD:=⟨("_law_leg",none),"_law_leg","_law_leg",defArgs (top 44),defBody (top 44),defScope (top 44),[],[]⟩
def jF:He.DefD:=⟨("_law_arrive",none),"_law_arrive","_law_arrive",defArgs (top 46),defBody (top 46),defScope (top 46),[],[]⟩
def nB:He.DefD:=⟨("_law_may",none),"_law_may","_law_may",defArgs (top 47),defBody (top 47),defScope (top 47),[],[]⟩
def iS:He.DefD:=⟨("_law_matched",none),"_law_matched","_law_matched",defArgs (top 48),defBody (top 48),defScope (top 48),[],[]⟩
def kU:He.DefD:=⟨("_law_least",none),"_law_least","_law_least",defArgs (top 49),defBody (top 49),defScope (top 49),[],[]⟩
def d_dated:He.DefD:=⟨("dated",none),"dated","dated",defArgs (top 28),defBody (top 28),defScope (top 28),[],[]⟩
def kW:He.DefD:=⟨("_law_rides",none),"_law_rides","_law_rides",defArgs (top 45),defBody (top 45),defScope (top 45),[],[]⟩
def kX:He.DefD:=⟨("_law_drawn",none),"_law_drawn","_law_drawn",defArgs (top 40),defBody (top 40),defScope (top 40),[],[]⟩
def iT:He.DefD:=⟨("_law_shuttle",none),"_law_shuttle","_law_shuttle",defArgs (top 41),defBody (top 41),defScope (top 41),[],[]⟩
def nD:He.DefD:=⟨("_law_net",none),"_law_net","_law_net",defArgs (top 42),defBody (top 42),defScope (top 42),[],[]⟩
def kY:He.DefD:=⟨("_law_start",none),"_law_start","_law_start",defArgs (top 39),defBody (top 39),defScope (top 39),[],[]⟩
def u8:He.DefD:=⟨("law",none),"law","law",defArgs (top 50),defBody (top 50),defScope (top 50),[],[]⟩
def hFn0:List He.DefD:=[gf,fq,kQ,d_is_number,lW,gg,gv,lX,jD,lY,kR,d_can_follow,fu,d_need_days,d_need_turn,d_are_days,d_is_leg,gh,d_is_word,d_is_place,d_need_net,jE,d_fewest,d_is_end,d_shown_planes,kT,nA,jF,nB,iS]
def hFn1:List He.DefD:=[kU,d_dated,kW,kX,iT,nD,kY,u8]
def hNA:List He.DefD:=hFn0
def hNB:List He.DefD:=[]++hFn1
def hFn:List He.DefD:=hNA++hNB
def hKinds:List He.Fa:=[]
def hFa0:List He.Fa:=[.noat "Matcher" "ahead",.noat "Matcher" "behind",.noat "Matcher" "every",.noat "Matcher" "nexts",.noat "Net" "changes",.noat "Net" "legs",.cls "Matcher",.cls "Net",.glo "AirError",.glo "BadCount",.glo "BadDay",.glo "BadNet",.glo "Matcher",.glo "Net",.glo "_law_arrive",.glo "_law_drawn",.glo "_law_least",.glo "_law_leave",.glo "_law_leg",.glo "_law_matched",.glo "_law_may",.glo "_law_net",.glo "_law_rides",.glo "_law_shuttle",.glo "_law_start",.glo "are_days",.glo "can_follow",.glo "dated",.glo "fewest",.glo "is_end"]
def hFa1:List He.Fa:=[.glo "is_leg",.glo "is_number",.glo "is_place",.glo "is_word",.glo "need_days",.glo "need_net",.glo "need_turn",.glo "shown_planes",.int "DAY" 1440,.int "LEAST_CHANGE" 10,.int "LEAST_LONG" 20,.int "LEAST_TURN" 10,.int "MOST_CHANGE" 300,.int "MOST_DAY" 60,.int "MOST_FARE" 100000,.int "MOST_LEGS" 60,.int "MOST_LONG" 900,.int "MOST_NUMBER" 9999,.int "MOST_PLACES" 12,.int "MOST_TURN" 300,.int "PLACE_SIZE" 3,.int "WEEK" 7,.mkr "Matcher",.mkr "Net",.meth "Matcher" "chains",.meth "Matcher" "cover",.meth "Matcher" "grow",.meth "Net" "all_rides",.meth "Net" "arrive",.meth "Net" "goal"]
def hFa2:List He.Fa:=[.meth "Net" "goes",.meth "Net" "leave",.meth "Net" "long",.meth "Net" "start",.free "all",.free "bool",.free "dict",.free "enumerate",.free "int",.free "isinstance",.free "len",.free "list",.free "min",.free "range",.free "set",.free "sorted",.free "str",.free "tuple",.free "zip",.str "LETTERS" "abcdefghijklmnopqrstuvwxyz",.exc "BadCount",.exc "BadDay",.glo "law"]
def hPA:List He.Fa:=hFa0++hFa1
def hPB:List He.Fa:=hFa2++hKinds
def hAll:List He.Fa:=hPA++hPB
def xE:List Str:=["_wall","__name__","AirError","BadNet","BadDay","BadCount","DAY","WEEK","MOST_DAY","MOST_PLACES","MOST_LEGS","MOST_NUMBER","MOST_FARE","LEAST_CHANGE","MOST_CHANGE","LEAST_LONG","MOST_LONG","LETTERS","PLACE_SIZE","is_number","is_word","is_place","are_days","is_leg","need_net","Net","need_days","dated","LEAST_TURN","MOST_TURN"]
def xF:List Str:=["need_turn","can_follow","Matcher","fewest","is_end","shown_planes","_law_start","_law_drawn","_law_shuttle","_law_net","_law_leave","_law_leg","_law_rides","_law_arrive","_law_may","_law_matched","_law_least"]
def rL:List Str:=xE++xF
def hTf:List He.Defn:=lamDefs.map (·.1)
def sv:List He.Tab:=[]
def hOwn (K:PySem.W.Frag):Bool:=u6 K (He.ga K "BadNet") (He.ma K (He.ga K "BadNet") "__init__") (He.ga K "AirError") ["part","number"]&&true
def hEx (K:PySem.W.Frag):Bool:=(rK K)&&hOwn K
theorem xG (h:(PySem.W.OpenLaw.row PySem.Challenge.rw_airhouse_k36_whole_planes_matched).wellSaid=true→(PySem.W.OpenLaw.row PySem.Challenge.rw_airhouse_k36_whole_planes_matched).Holds):PySem.Challenge.rw_airhouse_k36_whole_planes_matched.Holds:=by
  o_law
  exact h (by assumption)
abbrev hR:PySem.W.OpenRow:=PySem.W.OpenLaw.row PySem.Challenge.rw_airhouse_k36_whole_planes_matched
abbrev hHk:PySem.W.Hook:=hookF hAll hFn sv hTf hEx
def hOb (s:PySem.W.SharedT):He.AlX:=obsF hAll hFn sv hTf hEx (HandSHeadRun.getT s)
theorem hOb_eq (s:PySem.W.SharedT):hOb s=hHk.obs s.abs:=xD (HandSHeadRun.getT_eq s)
theorem hRun (w:World):HandSHeadRun.RunEq hR (PySem.W.view hR.prog [50]) hHk hOb 20000 rL w:=by
  intro os
  kernel_rfl
theorem hMost:PySem.Challenge.rw_airhouse_k36_whole_planes_matched.most=some 63:=rfl
theorem hDf:(HandSHeadRun.topDef (PySem.W.OpenLaw.row PySem.Challenge.rw_airhouse_k36_whole_planes_matched).prog 50).params.defaults=[]:=by kernel_rfl
theorem hNm:(HandSHeadRun.topDef (PySem.W.OpenLaw.row PySem.Challenge.rw_airhouse_k36_whole_planes_matched).prog 50).name=("law":PySem.Str):=by kernel_rfl
theorem u9 (hc:PySem.W.WalkO (PySem.W.view (PySem.W.OpenLaw.row PySem.Challenge.rw_airhouse_k36_whole_planes_matched).prog [50]) rL (PySem.W.XL (PySem.W.view (PySem.W.OpenLaw.row PySem.Challenge.rw_airhouse_k36_whole_planes_matched).prog [50]) []) hHk.says (PySem.W.OpenLaw.row PySem.Challenge.rw_airhouse_k36_whole_planes_matched).toRowW (HandSHeadRun.topDef (PySem.W.OpenLaw.row PySem.Challenge.rw_airhouse_k36_whole_planes_matched).prog 50) [] fun f vs=>PySem.call f vs):PySem.Challenge.rw_airhouse_k36_whole_planes_matched.Holds:=by
  refine xG fun said=>?_
  w_on
  refine HandSHeadRun.head_any (r:=PySem.W.OpenLaw.row PySem.Challenge.rw_airhouse_k36_whole_planes_matched) (q:=PySem.W.view (PySem.W.OpenLaw.row PySem.Challenge.rw_airhouse_k36_whole_planes_matched).prog [50]) (H:=hHk) (ob:=hOb) (M:=20000) (loose:=rL) (d:=HandSHeadRun.topDef (PySem.W.OpenLaw.row PySem.Challenge.rw_airhouse_k36_whole_planes_matched).prog 50) (kwd:=[]) hOb_eq
    (by kernel_rfl) (fun s=>by kernel_rfl) hRun (by kernel_rfl) (by kernel_rfl) (by kernel_rfl) (by rfl) (by first|assumption|decide +kernel) (by decide +kernel) ⟨rfl,rfl,rfl,rfl,rfl,by decide +kernel⟩ ?hw hc
  w_witness2
end DL
namespace DL
open PySem PySem.Spec PyProof.Rows L2
inductive D where
  | none|bool (b:Bool)|int (i:Int)|str (x:Str)|ty (n:String)
  | tup (xs:List D)|lst (xs:List D)|ro (xs:List D)|loc (l:Nat)|glo (x:Str)|adr (a:Addr)|tpn (xs:List D)
  | clo (k:Nat) (b:Bool) (q:Str) (F:Value→Addr→Value→Value→Obj)
  | exn (a dd:Addr) (ns:List Str) (xs:List D)
  deriving Inhabited
inductive O where
  | lst (xs:List D)|dct (t:Bool) (kvs:List (D × D))|ins (C:Str) (fs:List (Str × D))|fdc (t:Bool) (kvs:List (D × D))|any
  deriving Inhabited
abbrev Sto:=List O
abbrev En:=List (Option D)
structure XV where
  cls:Str
  fs:List (Str × D)
def de:Key→D
  | .inl i=>.int i
  | .inr x=>.str x
def fT (ks:List Key):D:=.tup (ks.map de)
/-- where what changes stands: what is named by its place,and what is being made -/
structure Mu where
  l:List Addr
  h:List Addr
instance:Membership Addr Mu:=⟨fun μ a=>a∈μ.l∨a∈μ.h⟩
def Mu.push (μ:Mu) (p:Addr):Mu:=⟨μ.l++[p],μ.h⟩
def Mu.hide (μ:Mu) (p:Addr):Mu:=⟨μ.l,p::μ.h⟩
theorem Mu.mem {μ:Mu} {a:Addr}:a∈μ↔a∈μ.l∨a∈μ.h:=Iff.rfl
/-- the function object o stands at f -/
def FunO (f:Addr) (o:Obj):HO:=.ext fun h=>h.get? f=some o
/-- the defaults of a lambda: none,or the one number 0 -/
def DfO (b:Bool) (H:Hp) (μ:Mu) (dv:Value):Prop:=b=true→∃T,dv=.ref T∧H T=some (.tup [.int 0])∧T∉μ
section
variable (K:PySem.W.Frag) (mg:Str→Option Value)
def SeqL (μ:Mu) (H:Hp) (a:Addr) (vs:List V):Prop:=(Rd H a (.lst vs)∧a∉μ)∨SqL K (fun _=>none) a vs
mutual
def Rep (μ:Mu) (H:Hp):D→V→Prop
  | .none,v=>v=.non
  | .bool b,v=>v=.bl b
  | .int i,v=>v=.int i
  | .str x,v=>v=.str x
  | .ty n,v=>v=.ty n
  | .tup ds,v=>∃a vs,v=.ref a∧H a=some (.tup vs)∧a∉μ∧RepAll μ H ds vs
  | .lst ds,v=>∃a vs,v=.ref a∧H a=some (.lst vs)∧a∉μ∧RepAll μ H ds vs
  | .ro ds,v=>∃a vs,v=.ref a∧SeqL K μ H a vs∧RepAll μ H ds vs
  | .loc l,v=>∃a,v=.ref a∧μ.l[l]?=some a
  | .glo x,v=>∃a,v=.ref a∧mg x=some (.ref a)
  | .adr a,v=>v=.ref a
  | .tpn ds,v=>∃a vs o,v=.ref a∧(H a=some (.frz o (.tup vs))∧o.dict=none)∧a∉μ∧RepAll μ H ds vs
  | .exn a dd ns ds,v=>∃vs,v=.ref a∧H dd=some (.xd (ns.zip vs))∧dd∉μ∧RepAll μ H ds vs
  | .clo _ b q F,v=>∃f c' pm ctv dv,v=.ref f∧(H f=some (FunO f (F pm c' ctv dv))∧f∉μ)∧(H c'=some (LamX.CodeO c' q)∧c'∉μ)∧DfO b H μ dv
def RepAll (μ:Mu) (H:Hp):List D→List V→Prop
  | [],vs=>vs=[]
  | d::ds,vs=>∃v r,vs=v::r∧Rep μ H d v∧RepAll μ H ds r
end
/-- what may be hidden -/
def Hdn (o:HO):Prop:=(∃xs,o=.lst xs)∨(∃kvs,o=.dK kvs)∨∃kvs,o=.dT kvs
def RepO (μ:Mu) (H:Hp):O→Addr→Prop
  | .any,a=>∃u,H a=some u∧Hdn u
  | .lst ds,a=>∃vs,H a=some (.lst vs)∧RepAll K mg μ H ds vs
  | .dct false kvs,a=>∃vs,∃ks:List Key,(H a=some (.dK (ks.zip vs))∧kvs.map (·.1)=ks.map de)∧RepAll K mg μ H (kvs.map (·.2)) vs
  | .dct true kvs,a=>∃vs,∃ks:List (List Key),(H a=some (.dT (ks.zip vs))∧kvs.map (·.1)=ks.map fT)∧RepAll K mg μ H (kvs.map (·.2)) vs
  | .ins C fs,a=>∃Ca dx vs,mg C=some (.ref Ca)∧H a=some (.ins Ca dx ((fs.map (·.1)).zip vs))∧RepAll K mg μ H (fs.map (·.2)) vs
  | .fdc false kvs,a=>∃vs,∃ks:List Key,((∃od,H a=some (.frz od (.dK (ks.zip vs))))∧kvs.map (·.1)=ks.map de)∧RepAll K mg μ H (kvs.map (·.2)) vs
  | .fdc true kvs,a=>∃vs,∃ks:List (List Key),((∃od,H a=some (.frz od (.dT (ks.zip vs))))∧kvs.map (·.1)=ks.map fT)∧RepAll K mg μ H (kvs.map (·.2)) vs
/-- no table of code objects -/
def NTb (o:HO):Prop:=∀ps,o≠.tbl ps
theorem Hdn.ntb {o:HO} (h:Hdn o) (ps:Array Value):o≠.tbl ps:=by
  rcases h with ⟨_,rfl⟩|⟨_,rfl⟩|⟨_,rfl⟩<;>exact nofun
theorem Hdn.nc {o:HO} (h:Hdn o) (c:Addr) (q:Str):o≠LamX.CodeO c q:=by
  unfold LamX.CodeO
  rcases h with ⟨_,rfl⟩|⟨_,rfl⟩|⟨_,rfl⟩<;>exact nofun
structure RelS (μ:Mu) (H:Hp) (S:Sto):Prop where
  len:S.length=μ.l.length
  nd:μ.l.Nodup
  dis:∀a∈μ.l,a∉μ.h
  hid:∀a∈μ.h,∃u,H a=some u∧Hdn u
  at_:∀(l:Nat) (o:O),S[l]?=some o→∃a,μ.l[l]?=some a∧RepO K mg μ H o a
  tab:LamX.Tabs (tbs K) H
structure RelE (μ:Mu) (H:Hp) (env:En) (σ:L2.St):Prop where
  len:env.length=σ.length
  at_:∀(i:Nat) (d:D),env[i]?=some (some d)→∃v,σ[i]?=some (some v)∧Rep K mg μ H d v
structure Rl (μ:Mu) (H:Hp) (env:En) (σ:L2.St) (S:Sto):Prop where
  env:RelE K mg μ H env σ
  sto:RelS K mg μ H S
def RepX (μ:Mu) (H:Hp) (e:XV) (cls:Value) (dd:Option Addr):Prop:=
  ∃C,mg e.cls=some (.ref C)∧cls=.ref C∧((e.fs=[]∧dd=none)∨e.fs≠[]∧∃d vs,dd=some d∧H d=some (.xd ((e.fs.map (·.1)).zip vs))∧RepAll K mg μ H (e.fs.map (·.2)) vs)
end
/-- what stays as code runs -/
structure StpW (μ:Mu) (H:Hp) (μ':Mu) (H':Hp):Prop where
  pre:∃t,μ'.l=μ.l++t
  new:∀a∈μ',a∈μ∨∀o,H a=some o→¬NTb o
  keep':∀a o,H a=some o→a∉μ→NTb o→H' a=some o
/-- .. what is locked among it -/
structure Stp (μ:Mu) (H:Hp) (μ':Mu) (H':Hp):Prop extends StpW μ H μ' H' where
  kf:∀a od u,H a=some (.frz od u)→H' a=some (.frz od u)
structure Step (μ:Mu) (H:Hp) (μ':Mu) (H':Hp):Prop extends Stp μ H μ' H' where
  hid:μ'.h=μ.h
  hk':∀a u,a∈μ.h→H a=some u→NTb u→H' a=some u
instance {μ μ':Mu} {H H':Hp}:Coe (Stp μ H μ' H') (StpW μ H μ' H'):=⟨Stp.toStpW⟩
theorem StpW.keep {μ μ':Mu} {H H':Hp} (s:StpW μ H μ' H') (a:Addr) (o:HO) (h:H a=some o) (n:a∉μ) (t:NTb o:=by exact fun _ z=>nomatch z):H' a=some o:=s.keep' a o h n t
theorem Step.hk {μ μ':Mu} {H H':Hp} (s:Step μ H μ' H') (a:Addr) (u:HO) (h:a∈μ.h) (e:H a=some u) (t:NTb u:=by exact fun _ z=>nomatch z):H' a=some u:=s.hk' a u h e t
def Sm (H H':Hp):Prop:=∀b o,H b=some o→H' b=some o
theorem Sm.rfl {H:Hp}:Sm H H:=fun _ _ h=>h
theorem Sm.trans {H H1 H2:Hp} (a:Sm H H1) (b:Sm H1 H2):Sm H H2:=fun c o h=>b c o (a c o h)
theorem Sm.upd {H:Hp} {p:Addr} {o:HO} (h:H p=none):Sm H (upd H p o):=fun b u e=>by
  rw[upd_ne (ne_of_none e h)]; exact e
section
variable {μ μ' μ2:Mu} {H H' H2:Hp}
theorem Stp.refl:Stp μ H μ H:=⟨⟨⟨[],by simp⟩,fun _ h=>.inl h,fun _ _ h _ _=>h⟩,fun _ _ _ h=>h⟩
theorem Step.refl:Step μ H μ H:=⟨.refl,rfl,fun _ _ _ h _=>h⟩
theorem Step.of_sm (s:Sm H H'):Step μ H μ H':=⟨⟨⟨⟨[],by simp⟩,fun _ h=>.inl h,fun a o h _ _=>s a o h⟩,fun a _ _ h=>s a _ h⟩,rfl,fun a u _ h _=>s a u h⟩
theorem StpW.notin (s:StpW μ H μ' H') {a:Addr} {o:HO} (h:H a=some o) (n:a∉μ) (t:NTb o:=by exact fun _ z=>nomatch z):a∉μ':=fun z=>by
  rcases s.new a z with e|e
  · exact n e
  · exact e o h t
theorem Step.notin (s:Step μ H μ' H') {a:Addr} {o:HO} (h:H a=some o) (n:a∉μ) (t:NTb o:=by exact fun _ z=>nomatch z):a∉μ':=s.toStp.notin h n t
theorem Stp.trans (s:Stp μ H μ' H') (t:Stp μ' H' μ2 H2):Stp μ H μ2 H2:=by
  obtain ⟨x,hx⟩:=s.pre
  obtain ⟨y,hy⟩:=t.pre
  refine ⟨⟨⟨x++y,by rw[hy,hx,List.append_assoc]⟩,fun a ha=>?_,fun a o h n nt=>t.keep a o (s.keep a o h n nt) (s.notin h n nt) nt⟩,fun a od u h=>t.kf a od u (s.kf a od u h)⟩
  rcases t.new a ha with e|e
  · exact s.new a e
  · by_cases h:a∈μ
    · exact .inl h
    · exact .inr fun o q nt=>e o (s.keep a o q h nt) nt
theorem Step.trans (s:Step μ H μ' H') (t:Step μ' H' μ2 H2):Step μ H μ2 H2:=⟨s.toStp.trans t.toStp,t.hid.trans s.hid,fun a u ha h nt=>t.hk a u (by rw[s.hid]; exact ha) (s.hk a u ha h nt) nt⟩
theorem StpW.get (s:StpW μ H μ' H') {l:Nat} {a:Addr} (h:μ.l[l]?=some a):μ'.l[l]?=some a:=by
  obtain ⟨t,e⟩:=s.pre
  have hl:l<μ.l.length:=(List.getElem?_eq_some_iff.mp h).1
  rw[e,List.getElem?_append_left hl]; exact h
theorem Step.get (s:Step μ H μ' H') {l:Nat} {a:Addr} (h:μ.l[l]?=some a):μ'.l[l]?=some a:=s.toStp.get h
/-- a new one at p -/
theorem Step.new_loc {p:Addr} {o:HO} (h:H p=none):Step μ H (μ.push p) (upd H p o):=
  ⟨⟨⟨⟨[p],rfl⟩,fun a ha=>by
    rcases ha with ha|ha
    · rcases List.mem_append.mp ha with e|e
      · exact .inl (.inl e)
      · have:a=p:=by simpa using e
        subst this; exact .inr fun o q=>by rw[h] at q; cases q
    · exact .inl (.inr ha),fun a u e _ _=>(by rw[upd_ne (ne_of_none e h)]; exact e)⟩,fun a _ _ e=>(by rw[upd_ne (ne_of_none e h)]; exact e)⟩,rfl,fun a u _ e _=>by rw[upd_ne (ne_of_none e h)]; exact e⟩
theorem Stp.new_hid {p:Addr} {o:HO} (h:H p=none):Stp μ H (μ.hide p) (upd H p o):=
  ⟨⟨⟨[],by simp[Mu.hide]⟩,fun a ha=>by
    rcases ha with ha|ha
    · exact .inl (.inl ha)
    · rcases List.mem_cons.mp ha with e|e
      · subst e; exact .inr fun o q=>by rw[h] at q; cases q
      · exact .inl (.inr e),fun a u e _ _=>(by rw[upd_ne (ne_of_none e h)]; exact e)⟩,fun a _ _ e=>(by rw[upd_ne (ne_of_none e h)]; exact e)⟩
/-- not locked -/
def NF (H:Hp) (p:Addr):Prop:=∀od u,H p≠some (.frz od u)
theorem NF.of {H:Hp} {p:Addr} {w:HO} (h:H p=some w) (hw:∀od u,w≠.frz od u:=by exact fun _ _ z=>nomatch z):NF H p:=fun od u z=>by
  rw[h] at z; exact hw od u (Option.some.inj z)
theorem NF.ne {H:Hp} {p b:Addr} {od:Obj} {u:HO} (n:NF H p) (e:H b=some (.frz od u)):b≠p:=fun z=>n od u (z▸e)
theorem Hdn.nf {H:Hp} {p:Addr} {u:HO} (e:H p=some u) (h:Hdn u):NF H p:=.of e (by rcases h with ⟨_,rfl⟩|⟨_,rfl⟩|⟨_,rfl⟩<;>exact fun _ _ z=>nomatch z)
theorem Stp.write_hid {p:Addr} {o:HO} (h:p∈μ.h) (nf:NF H p):Stp μ H μ (upd H p o):=
  ⟨⟨⟨[],by simp⟩,fun _ h=>.inl h,fun b u e n _=>(by
    have:b≠p:=fun z=>n (z▸.inr h)
    rw[upd_ne this]; exact e)⟩,fun b _ _ e=>(by rw[upd_ne (nf.ne e)]; exact e)⟩
theorem Step.write' {l:Nat} {a:Addr} {o:HO} (h:μ.l[l]?=some a) (hd:a∉μ.h) (nf:NF H a):Step μ H μ (upd H a o):=
  ⟨⟨⟨⟨[],by simp⟩,fun _ h=>.inl h,fun b u e n _=>(by
    have:b≠a:=fun z=>n (z▸.inl (List.mem_of_getElem? h))
    rw[upd_ne this]; exact e)⟩,fun b _ _ e=>(by rw[upd_ne (nf.ne e)]; exact e)⟩,rfl,fun b u hb e _=>by
    have:b≠a:=fun z=>hd (z▸hb)
    rw[upd_ne this]; exact e⟩
variable {K:PySem.W.Frag} {mg:Str→Option Value}
theorem SeqL.sq {a:Addr} {vs:List V} (h:SeqL K μ H a vs):SqL K H a vs:=by
  rcases h with h|h|h
  · exact .inl h.1
  · rcases h with z|⟨o,z⟩<;>cases z
  · exact .inr h
theorem pR (s:StpW μ H μ' H') {a:Addr} {u:HO} (h:Rd H a u) (n:a∉μ) (t:NTb u:=by exact fun _ z=>nomatch z):Rd H' a u∧a∉μ':=by
  rcases h with h|⟨o,h⟩
  · exact ⟨.inl (s.keep _ _ h n t),s.notin h n t⟩
  · exact ⟨.inr ⟨o,s.keep _ _ h n⟩,s.notin h n⟩
theorem SeqL.stpW (s:StpW μ H μ' H') {a:Addr} {vs:List V} (h:SeqL K μ H a vs):SeqL K μ' H' a vs:=by
  rcases h with h|h
  · exact .inl (pR s h.1 h.2)
  · exact .inr h
mutual
theorem Rep.stpW (s:StpW μ H μ' H'):∀(d:D) (v:V),Rep K mg μ H d v→Rep K mg μ' H' d v
  | .none,_,h=>by unfold Rep at *; exact h
  | .bool _,_,h=>by unfold Rep at *; exact h
  | .int _,_,h=>by unfold Rep at *; exact h
  | .str _,_,h=>by unfold Rep at *; exact h
  | .ty _,_,h=>by unfold Rep at *; exact h
  | .tup ds,_,h=>by
    unfold Rep at *
    obtain ⟨a,vs,e,h1,n,h2⟩:=h
    exact ⟨a,vs,e,s.keep _ _ h1 n,s.notin h1 n,RepAll.stpW s ds vs h2⟩
  | .lst ds,_,h=>by
    unfold Rep at *
    obtain ⟨a,vs,e,h1,n,h2⟩:=h
    exact ⟨a,vs,e,s.keep _ _ h1 n,s.notin h1 n,RepAll.stpW s ds vs h2⟩
  | .ro ds,_,h=>by
    unfold Rep at *
    obtain ⟨a,vs,e,h1,h2⟩:=h
    exact ⟨a,vs,e,h1.stpW s,RepAll.stpW s ds vs h2⟩
  | .loc l,_,h=>by
    unfold Rep at *
    obtain ⟨a,e,h1⟩:=h
    exact ⟨a,e,s.get h1⟩
  | .glo _,_,h=>by unfold Rep at *; exact h
  | .adr _,_,h=>by unfold Rep at *; exact h
  | .exn a dd ns ds,_,h=>by
    unfold Rep at *
    obtain ⟨vs,e,h1,n,h2⟩:=h
    exact ⟨vs,e,s.keep _ _ h1 n,s.notin h1 n,RepAll.stpW s ds vs h2⟩
  | .clo _ b q F,_,h=>by
    unfold Rep at *
    obtain ⟨f,c',pm,ctv,dv,e,⟨h1,n1⟩,⟨h2,n2⟩,h3⟩:=h
    have t1:NTb (FunO f (F pm c' ctv dv)):=fun _ z=>by unfold FunO at z; cases z
    have t2:NTb (LamX.CodeO c' q):=fun _ z=>by unfold LamX.CodeO at z; cases z
    refine ⟨f,c',pm,ctv,dv,e,⟨s.keep _ _ h1 n1 t1,s.notin h1 n1 t1⟩,⟨s.keep _ _ h2 n2 t2,s.notin h2 n2 t2⟩,fun hb=>?_⟩
    obtain ⟨T,h3,h4,h5⟩:=h3 hb
    exact ⟨T,h3,s.keep _ _ h4 h5,s.notin h4 h5⟩
  | .tpn ds,_,h=>by
    unfold Rep at *
    obtain ⟨a,vs,o,e,⟨h1,hd⟩,n,h2⟩:=h
    exact ⟨a,vs,o,e,⟨s.keep _ _ h1 n,hd⟩,s.notin h1 n,RepAll.stpW s ds vs h2⟩
theorem RepAll.stpW (s:StpW μ H μ' H'):∀(ds:List D) (vs:List V),RepAll K mg μ H ds vs→RepAll K mg μ' H' ds vs
  | [],_,h=>by unfold RepAll at *; exact h
  | d::ds,_,h=>by
    unfold RepAll at *
    obtain ⟨v,r,e,h1,h2⟩:=h
    exact ⟨v,r,e,Rep.stpW s d v h1,RepAll.stpW s ds r h2⟩
end
theorem dB (s:Stp μ H μ' H') {a:Addr} {u:HO} (h:Rd H a u) (n:a∉μ) (t:NTb u:=by exact fun _ z=>nomatch z):Rd H' a u∧a∉μ':=pR s.toStpW h n t
theorem SeqL.stp (s:Stp μ H μ' H') {a:Addr} {vs:List V} (h:SeqL K μ H a vs):SeqL K μ' H' a vs:=h.stpW s.toStpW
theorem Rep.stp (s:Stp μ H μ' H') (d:D) (v:V) (h:Rep K mg μ H d v):Rep K mg μ' H' d v:=Rep.stpW s.toStpW d v h
theorem RepAll.stp (s:Stp μ H μ' H') (ds:List D) (vs:List V) (h:RepAll K mg μ H ds vs):RepAll K mg μ' H' ds vs:=RepAll.stpW s.toStpW ds vs h
theorem Rep.step (s:Step μ H μ' H') (d:D) (v:V) (h:Rep K mg μ H d v):Rep K mg μ' H' d v:=Rep.stp s.toStp d v h
theorem RepAll.step (s:Step μ H μ' H') (d:List D) (v:List V) (h:RepAll K mg μ H d v):RepAll K mg μ' H' d v:=RepAll.stp s.toStp d v h
theorem SeqL.step (s:Step μ H μ' H') {a:Addr} {vs:List V} (h:SeqL K μ H a vs):SeqL K μ' H' a vs:=h.stp s.toStp
theorem RepAll.length:∀ {ds:List D} {vs:List V},RepAll K mg μ H ds vs→ds.length=vs.length
  | [],_,h=>by unfold RepAll at h; subst h; rfl
  | d::ds,_,h=>by
    unfold RepAll at h
    obtain ⟨v,r,rfl,_,h2⟩:=h
    simp[RepAll.length h2]
theorem RepAll.get:∀ {ds:List D} {vs:List V} {i:Nat} {d:D},RepAll K mg μ H ds vs→ds[i]?=some d→∃v,vs[i]?=some v∧Rep K mg μ H d v
  | [],_,_,_,_,e=>by simp at e
  | d::ds,_,0,_,h,e=>by
    unfold RepAll at h
    obtain ⟨v,r,rfl,h1,_⟩:=h
    simp at e; subst e
    exact ⟨v,rfl,h1⟩
  | d::ds,_,i+1,_,h,e=>by
    unfold RepAll at h
    obtain ⟨v,r,rfl,_,h2⟩:=h
    obtain ⟨u,e1,e2⟩:=RepAll.get (i:=i) h2 (by simpa using e)
    exact ⟨u,by simpa using e1,e2⟩
theorem RepAll.nil:RepAll K mg μ H [] []:=by unfold RepAll; rfl
theorem RepAll.cons {d:D} {ds:List D} {v:V} {vs:List V} (h:Rep K mg μ H d v) (t:RepAll K mg μ H ds vs):RepAll K mg μ H (d::ds) (v::vs):=by
  unfold RepAll; exact ⟨v,vs,rfl,h,t⟩
theorem RepAll.append:∀ {ds es:List D} {vs us:List V},RepAll K mg μ H ds vs→RepAll K mg μ H es us→RepAll K mg μ H (ds++es) (vs++us)
  | [],_,_,_,h,t=>by unfold RepAll at h; subst h; exact t
  | d::ds,_,_,_,h,t=>by
    unfold RepAll at h
    obtain ⟨v,r,rfl,h1,h2⟩:=h
    exact .cons h1 (RepAll.append h2 t)
theorem RepAll.take:∀ {ds:List D} {vs:List V} (n:Nat),RepAll K mg μ H ds vs→RepAll K mg μ H (ds.take n) (vs.take n)
  | _,_,0,_=>by simp only[List.take_zero]; exact .nil
  | [],_,n+1,h=>by unfold RepAll at h; subst h; simp only[List.take_nil]; exact .nil
  | d::ds,_,n+1,h=>by
    unfold RepAll at h
    obtain ⟨v,r,rfl,h1,h2⟩:=h
    exact .cons h1 (RepAll.take n h2)
theorem RepAll.drop:∀ {ds:List D} {vs:List V} (n:Nat),RepAll K mg μ H ds vs→RepAll K mg μ H (ds.drop n) (vs.drop n)
  | _,_,0,h=>h
  | [],_,n+1,h=>by unfold RepAll at h; subst h; simp only[List.drop_nil]; exact .nil
  | d::ds,_,n+1,h=>by
    unfold RepAll at h
    obtain ⟨v,r,rfl,h1,h2⟩:=h
    exact RepAll.drop n h2
theorem RepAll.set {d:D} {v:V} (r:Rep K mg μ H d v):∀ {ds:List D} {vs:List V} (i:Nat),RepAll K mg μ H ds vs→RepAll K mg μ H (ds.set i d) (vs.set i v)
  | [],_,i,h=>by unfold RepAll at h; subst h; exact .nil
  | e::ds,_,0,h=>by
    unfold RepAll at h
    obtain ⟨w,q,rfl,h1,h2⟩:=h
    exact .cons r h2
  | e::ds,_,i+1,h=>by
    unfold RepAll at h
    obtain ⟨w,q,rfl,h1,h2⟩:=h
    exact .cons h1 (RepAll.set r i h2)
theorem RepO.step_sm (s:Sm H H') {o:O} {a:Addr} (h:RepO K mg μ H o a):RepO K mg μ H' o a:=by
  have st:Step μ H μ H':=.of_sm s
  cases o with
  | lst ds=>obtain ⟨vs,h1,h2⟩:=h; exact ⟨vs,s _ _ h1,RepAll.step st _ _ h2⟩
  | any=>obtain ⟨u,e,t⟩:=h; exact ⟨u,s _ _ e,t⟩
  | dct t kvs=>
    cases t<;>(obtain ⟨vs,ks,⟨e,k⟩,h2⟩:=h; exact ⟨vs,ks,⟨s _ _ e,k⟩,RepAll.step st _ _ h2⟩)
  | ins C fs=>obtain ⟨Ca,dx,vs,g,h1,h2⟩:=h; exact ⟨Ca,dx,vs,g,s _ _ h1,RepAll.step st _ _ h2⟩
  | fdc t kvs=>
    cases t<;>(obtain ⟨vs,ks,⟨⟨od,e⟩,k⟩,h2⟩:=h; exact ⟨vs,ks,⟨⟨od,s _ _ e⟩,k⟩,RepAll.step st _ _ h2⟩)
/-- its own object stays -/
theorem RepO.stepW (st:StpW μ H μ' H') {o:O} {a:Addr} (e:∀u,H a=some u→H' a=some u) (h:RepO K mg μ H o a):RepO K mg μ' H' o a:=by
  cases o with
  | lst ds=>obtain ⟨vs,h1,h2⟩:=h; exact ⟨vs,e _ h1,RepAll.stpW st _ _ h2⟩
  | any=>obtain ⟨u,q,t⟩:=h; exact ⟨u,e _ q,t⟩
  | dct t kvs=>
    cases t<;>(obtain ⟨vs,ks,⟨q,k⟩,h2⟩:=h; exact ⟨vs,ks,⟨e _ q,k⟩,RepAll.stpW st _ _ h2⟩)
  | ins C fs=>obtain ⟨Ca,dx,vs,g,h1,h2⟩:=h; exact ⟨Ca,dx,vs,g,e _ h1,RepAll.stpW st _ _ h2⟩
  | fdc t kvs=>
    cases t<;>(obtain ⟨vs,ks,⟨⟨od,q⟩,k⟩,h2⟩:=h; exact ⟨vs,ks,⟨⟨od,e _ q⟩,k⟩,RepAll.stpW st _ _ h2⟩)
theorem RepO.step (st:Stp μ H μ' H') {o:O} {a:Addr} (e:∀u,H a=Option.some u→H' a=Option.some u) (h:RepO K mg μ H o a):RepO K mg μ' H' o a:=h.stepW st.toStpW e
theorem RepO.some {o:O} {a:Addr} (h:RepO K mg μ H o a):∃u,H a=some u:=by
  cases o with
  | lst ds=>obtain ⟨vs,h1,h2⟩:=h; exact ⟨_,h1⟩
  | any=>obtain ⟨u,q,t⟩:=h; exact ⟨u,q⟩
  | dct t kvs=>
    cases t<;>(obtain ⟨vs,ks,⟨q,k⟩,h2⟩:=h; exact ⟨_,q⟩)
  | ins C fs=>obtain ⟨Ca,dx,vs,g,h1,h2⟩:=h; exact ⟨_,h1⟩
  | fdc t kvs=>
    cases t<;>(obtain ⟨vs,ks,⟨⟨od,q⟩,k⟩,h2⟩:=h; exact ⟨_,q⟩)
theorem RepO.nt {o:O} {a:Addr} (h:RepO K mg μ H o a) {ps:Array Value} (e:H a=Option.some (HO.tbl ps)):False:=by
  cases o with
  | any=>obtain ⟨u,q,t⟩:=h; rw[e] at q; cases q; rcases t with ⟨_,t⟩|⟨_,t⟩|⟨_,t⟩<;>cases t
  | lst ds=>obtain ⟨vs,h1,h2⟩:=h; rw[e] at h1; cases h1
  | dct t kvs=>
    cases t<;>(obtain ⟨vs,ks,⟨q,k⟩,h2⟩:=h; rw[e] at q; cases q)
  | ins C fs=>obtain ⟨Ca,dx,vs,g,h1,h2⟩:=h; rw[e] at h1; cases h1
  | fdc t kvs=>
    cases t<;>(obtain ⟨vs,ks,⟨⟨od,q⟩,k⟩,h2⟩:=h; rw[e] at q; cases q)
variable {S:Sto} {env:En} {σ:L2.St}
theorem RelS.sm (s:Sm H H') (h:RelS K mg μ H S):RelS K mg μ H' S:=
  ⟨h.len,h.nd,h.dis,fun a ha=>let ⟨u,e,t⟩:=h.hid a ha; ⟨u,s a u e,t⟩,fun l o e=>let ⟨a,h1,h2⟩:=h.at_ l o e; ⟨a,h1,h2.step_sm s⟩,h.tab.ext s⟩
theorem RelE.stpW (s:StpW μ H μ' H') (h:RelE K mg μ H env σ):RelE K mg μ' H' env σ:=
  ⟨h.len,fun i d e=>let ⟨v,h1,h2⟩:=h.at_ i d e; ⟨v,h1,Rep.stpW s _ _ h2⟩⟩
theorem RelE.stp (s:Stp μ H μ' H') (h:RelE K mg μ H env σ):RelE K mg μ' H' env σ:=h.stpW s.toStpW
theorem RelE.step (s:Step μ H μ' H') (h:RelE K mg μ H env σ):RelE K mg μ' H' env σ:=h.stp s.toStp
theorem RelE.set (h:RelE K mg μ H env σ) {i:Nat} {d:D} {v:V} (r:Rep K mg μ H d v):RelE K mg μ H (env.set i (some d)) (σ.set i (some v)):=by
  refine ⟨by simp[h.len],fun j e q=>?_⟩
  by_cases hj:j=i
  · subst hj
    have hl:j<env.length:=by
      have:=(List.getElem?_eq_some_iff.mp q).1; simpa using this
    rw[List.getElem?_set_self hl] at q
    cases q
    exact ⟨v,by rw[List.getElem?_set_self (by rw[←h.len]; exact hl)],r⟩
  · rw[List.getElem?_set_ne (Ne.symm hj)] at q
    rw[List.getElem?_set_ne (Ne.symm hj)]
    exact h.at_ j e q
theorem Rl.sm (s:Sm H H') (h:Rl K mg μ H env σ S):Rl K mg μ H' env σ S:=⟨h.env.step (.of_sm s),h.sto.sm s⟩
theorem RelS.notin (rs:RelS K mg μ H S) {p:Addr} (hp:H p=none):p∉μ.l:=fun z=>by
  obtain ⟨l,hl,e⟩:=List.getElem_of_mem z
  obtain ⟨a',h1,h2⟩:=rs.at_ l (S[l]'(by rw[rs.len]; exact hl)) (List.getElem?_eq_getElem (by rw[rs.len]; exact hl))
  rw[List.getElem?_eq_getElem hl,e] at h1; cases h1
  obtain ⟨u,hu⟩:=h2.some
  rw[hp] at hu; cases hu
theorem RelS.notinH (rs:RelS K mg μ H S) {p:Addr} (hp:H p=none):p∉μ.h:=fun z=>by
  obtain ⟨u,e,_⟩:=rs.hid p z
  rw[hp] at e; cases e
theorem RelS.fresh (rs:RelS K mg μ H S) {p:Addr} (hp:H p=none):p∉μ:=fun z=>z.elim (rs.notin hp) (rs.notinH hp)
theorem RelS.ntab (rs:RelS K mg μ H S) {l:Nat} {a:Addr} (hl:μ.l[l]?=some a) {ps:Array Value} (e:H a=Option.some (HO.tbl ps)):False:=by
  have hl2:l<S.length:=by rw[rs.len]; exact (List.getElem?_eq_some_iff.mp hl).1
  obtain ⟨a',h1,h2⟩:=rs.at_ l _ (List.getElem?_eq_getElem hl2)
  rw[hl] at h1; cases h1
  exact h2.nt e
theorem lZ {T:List (Addr × Str)} {p:Addr} {ho:HO} (h:LamX.Tabs T H) (n:∀ps,H p≠some (.tbl ps)) (nc:∀c q,H p≠some (LamX.CodeO c q)):LamX.Tabs T (upd H p ho):=fun q hq=>by
  obtain ⟨ps,h1,h2,h3⟩:=h q hq
  refine ⟨ps,by rw[upd_ne fun z=>n ps (by rw[←z]; exact h1)]; exact h1,h2,fun pos cv e=>?_⟩
  obtain ⟨c,e1,e2⟩:=h3 pos cv e
  exact ⟨c,e1,by rw[upd_ne fun z=>nc c q.2 (by rw[←z]; exact e2)]; exact e2⟩
theorem RepO.nc {o:O} {a c:Addr} {q:Str} (h:RepO K mg μ H o a) (e:H a=Option.some (LamX.CodeO c q)):False:=by
  unfold LamX.CodeO at e
  cases o with
  | any=>obtain ⟨u,q,t⟩:=h; rw[e] at q; cases q; rcases t with ⟨_,t⟩|⟨_,t⟩|⟨_,t⟩<;>cases t
  | lst ds=>obtain ⟨vs,h1,h2⟩:=h; rw[e] at h1; cases h1
  | dct t kvs=>
    cases t<;>(obtain ⟨vs,ks,⟨q,k⟩,h2⟩:=h; rw[e] at q; cases q)
  | ins C fs=>obtain ⟨Ca,dx,vs,g,h1,h2⟩:=h; rw[e] at h1; cases h1
  | fdc t kvs=>
    cases t<;>(obtain ⟨vs,ks,⟨⟨od,q⟩,k⟩,h2⟩:=h; rw[e] at q; cases q)
theorem RelS.ncode (rs:RelS K mg μ H S) {l:Nat} {a c:Addr} {q:Str} (hl:μ.l[l]?=some a) (e:H a=Option.some (LamX.CodeO c q)):False:=by
  have hl2:l<S.length:=by rw[rs.len]; exact (List.getElem?_eq_some_iff.mp hl).1
  obtain ⟨a',h1,h2⟩:=rs.at_ l _ (List.getElem?_eq_getElem hl2)
  rw[hl] at h1; cases h1
  exact h2.nc e
/-- a new object -/
theorem RelS.push (h:RelS K mg μ H S) {p:Addr} {ho:HO} {o:O} (hp:H p=none) (r:RepO K mg (μ.push p) (upd H p ho) o p):RelS K mg (μ.push p) (upd H p ho) (S++[o]):=by
  have st:Step μ H (μ.push p) (upd H p ho):=.new_loc hp
  have np:p∉μ.l:=h.notin hp
  have hh:p∉μ.h:=h.notinH hp
  refine ⟨by simp[h.len,Mu.push],List.nodup_append.mpr ⟨h.nd,by simp,fun a ha b hb=>?_⟩,fun a ha=>?_,fun a ha=>?_,fun l u e=>?_,h.tab.ext (Sm.upd hp)⟩
  · have:b=p:=by simpa using hb
    subst this
    exact fun z=>np (z▸ha)
  · rcases List.mem_append.mp ha with e|e
    · exact h.dis a e
    · have:a=p:=by simpa using e
      subst this; exact hh
  · obtain ⟨u,e,t⟩:=h.hid a ha
    exact ⟨u,by rw[upd_ne (ne_of_none e hp)]; exact e,t⟩
  · by_cases hl:l<S.length
    · rw[List.getElem?_append_left hl] at e
      obtain ⟨a,h1,h2⟩:=h.at_ l u e
      exact ⟨a,st.get h1,h2.step st.toStp fun w q=>by rw[upd_ne (ne_of_none q hp)]; exact q⟩
    · rw[List.getElem?_append_right (by omega)] at e
      have hl2:l - S.length=0:=by
        have:=(List.getElem?_eq_some_iff.mp e).1
        simp at this; omega
      rw[hl2] at e
      simp at e
      subst e
      have:l=S.length:=by omega
      subst this
      exact ⟨p,by rw[h.len]; simp[Mu.push],r⟩
/-- an object written -/
theorem RelS.write (h:RelS K mg μ H S) {l:Nat} {p:Addr} {ho:HO} {o:O} (hp:μ.l[l]?=some p) (nf:NF H p) (r:RepO K mg μ (upd H p ho) o p):RelS K mg μ (upd H p ho) (S.set l o):=by
  have st:Step μ H μ (upd H p ho):=.write' hp (h.dis p (List.mem_of_getElem? hp)) nf
  refine ⟨by simp[h.len],h.nd,h.dis,fun a ha=>?_,fun j u e=>?_,lZ h.tab (fun ps z=>h.ntab hp z) fun c q z=>h.ncode hp z⟩
  · obtain ⟨u,e,t⟩:=h.hid a ha
    by_cases hap:a=p
    · subst hap
      exact absurd ha (h.dis a (List.mem_of_getElem? hp))
    · exact ⟨u,by rw[upd_ne hap]; exact e,t⟩
  by_cases hj:j=l
  · subst hj
    have hl:j<S.length:=by
      have:=(List.getElem?_eq_some_iff.mp e).1; simpa using this
    rw[List.getElem?_set_self hl] at e
    cases e
    exact ⟨p,hp,r⟩
  · rw[List.getElem?_set_ne (Ne.symm hj)] at e
    obtain ⟨a,h1,h2⟩:=h.at_ j u e
    have na:a≠p:=fun z=>by
      subst z
      have e1:=List.getElem?_eq_some_iff.mp h1
      have e2:=List.getElem?_eq_some_iff.mp hp
      exact hj ((List.getElem_inj h.nd).mp (e1.2.trans e2.2.symm))
    exact ⟨a,h1,h2.step st.toStp fun w q=>by rw[upd_ne na]; exact q⟩
theorem Step.write (h:RelS K mg μ H S) {l:Nat} {a:Addr} {o:HO} (hp:μ.l[l]?=some a) (nf:NF H a):Step μ H μ (upd H a o):=.write' hp (h.dis a (List.mem_of_getElem? hp)) nf
/-- something hidden is made,is written -/
theorem RelS.hide (h:RelS K mg μ H S) {p:Addr} {ho:HO} (hp:H p=none) (ht:Hdn ho:=by first|exact .inl ⟨_,rfl⟩|exact .inr (.inl ⟨_,rfl⟩)|exact .inr (.inr ⟨_,rfl⟩)):RelS K mg (μ.hide p) (upd H p ho) S:=by
  have st:Stp μ H (μ.hide p) (upd H p ho):=.new_hid hp
  have np:=h.notin hp
  refine ⟨h.len,h.nd,fun a ha=>?_,fun a ha=>?_,fun l o e=>?_,h.tab.ext (Sm.upd hp)⟩
  · intro z
    rcases List.mem_cons.mp z with e|e
    · subst e; exact np ha
    · exact h.dis a ha e
  · rcases List.mem_cons.mp ha with e|e
    · subst e; exact ⟨_,upd_same,ht⟩
    · obtain ⟨u,e,t⟩:=h.hid a e
      exact ⟨u,by rw[upd_ne (ne_of_none e hp)]; exact e,t⟩
  · obtain ⟨a,h1,h2⟩:=h.at_ l o e
    exact ⟨a,h1,h2.step st fun u q=>by rw[upd_ne (ne_of_none q hp)]; exact q⟩
theorem RelS.write_hid (h:RelS K mg μ H S) {p:Addr} {ho:HO} (hp:p∈μ.h) (ht:Hdn ho:=by first|exact .inl ⟨_,rfl⟩|exact .inr (.inl ⟨_,rfl⟩)|exact .inr (.inr ⟨_,rfl⟩)):RelS K mg μ (upd H p ho) S:=by
  have st:Stp μ H μ (upd H p ho):=.write_hid hp (by obtain ⟨u,e,t⟩:=h.hid p hp; exact Hdn.nf e t)
  refine ⟨h.len,h.nd,h.dis,fun a ha=>?_,fun l o e=>?_,lZ h.tab (fun ps z=>?_) fun c q z=>?_⟩
  · obtain ⟨u,e,t⟩:=h.hid a ha
    by_cases hap:a=p
    · exact ⟨_,by rw[hap]; exact upd_same,ht⟩
    · exact ⟨u,by rw[upd_ne hap]; exact e,t⟩
  rotate_left
  · obtain ⟨u,e,t⟩:=h.hid p hp
    rw[z] at e; cases e
    exact t.ntb ps rfl
  · obtain ⟨u,e,t⟩:=h.hid p hp
    rw[z] at e; cases e
    exact t.nc c q rfl
  obtain ⟨a,h1,h2⟩:=h.at_ l o e
  have na:a≠p:=fun z=>h.dis a (List.mem_of_getElem? h1) (z▸hp)
  exact ⟨a,h1,h2.step st fun u q=>by rw[upd_ne na]; exact q⟩
/-- less is hidden -/
theorem Stp.unhide {h':List Addr} (hs:∀a∈h',a∈μ.h):Stp μ H ⟨μ.l,h'⟩ H:=⟨⟨⟨[],by simp⟩,fun a ha=>.inl (ha.elim .inl fun z=>.inr (hs a z)),fun _ _ e _ _=>e⟩,fun _ _ _ e=>e⟩
theorem RelS.unhide {h':List Addr} (hs:∀a∈h',a∈μ.h) (h:RelS K mg μ H S):RelS K mg ⟨μ.l,h'⟩ H S:=
  ⟨h.len,h.nd,fun a ha z=>h.dis a ha (hs a z),fun a ha=>h.hid a (hs a ha),fun l o e=>let ⟨a,h1,h2⟩:=h.at_ l o e; ⟨a,h1,h2.step (.unhide hs) fun _ q=>q⟩,h.tab⟩
end
end DL
namespace DL
open PySem PySem.Spec PyProof.Rows L2
inductive Res (α:Type) where
  | ok (a:α) (S:Sto)|exc (e:XV) (S:Sto)|stuck
abbrev ME:=En→Sto→Res D
abbrev MA:=En→Sto→Res (List D)
abbrev MT:=En→Sto→Res Bool
def Res.bind {α β:Type}:Res α→(α→Sto→Res β)→Res β
  | .ok a S,f=>f a S
  | .exc e S,_=>.exc e S
  | .stuck,_=>.stuck
def ofO {α:Type} (S:Sto):Option α→Res α
  | some a=>.ok a S
  | none=>.stuck
section
variable (K:PySem.W.Frag) (mg:Str→Option Value)
def Out {α β:Type} (W:WX) (σ:L2.St) (μ:Mu) (H:Hp) (R:Mu→Hp→α→β→Prop) (Q:β→Hp→Prop):Res α→Prop
  | .ok a S=>∀μ' H' b,Step μ H μ' H'→RelS K mg μ' H' S→R μ' H' a b→Q b H'
  | .exc e S=>∀μ' H' cls dd,Step μ H μ' H'→RelS K mg μ' H' S→RepX K mg μ' H' e cls dd→W cls dd σ H'
  | .stuck=>False
end
section
variable {K:PySem.W.Frag} {mg:Str→Option Value} {α α' β β':Type} {W:WX} {σ:L2.St} {μ μ1:Mu} {H H1:Hp} {R:Mu→Hp→α→β→Prop} {R':Mu→Hp→α'→β'→Prop}
theorem Out.of_step {Q:β→Hp→Prop} {r:Res α} (st:Step μ H μ1 H1) (o:Out K mg W σ μ H R Q r):Out K mg W σ μ1 H1 R Q r:=by
  cases r with
  | ok a S=>exact fun μ' H' b s=>o μ' H' b (st.trans s)
  | exc e S=>exact fun μ' H' c d s=>o μ' H' c d (st.trans s)
  | stuck=>exact o
theorem Out.mono {Q Q':β→Hp→Prop} {r:Res α} (o:Out K mg W σ μ H R Q r) (h:∀b H',Q b H'→Q' b H'):Out K mg W σ μ H R Q' r:=by
  cases r with
  | ok a S=>exact fun μ' H' b s t u=>h _ _ (o μ' H' b s t u)
  | exc e S=>exact o
  | stuck=>exact o
theorem Out.bind {Q:β'→Hp→Prop} {r:Res α} {f:α→Sto→Res α'} (o:Out K mg W σ μ H R' Q (r.bind f)) :
    Out K mg W σ μ H R (fun b H1=>∃μ1 S1 a,Step μ H μ1 H1∧RelS K mg μ1 H1 S1∧R μ1 H1 a b∧Out K mg W σ μ1 H1 R' Q (f a S1)) r:=by
  cases r with
  | ok a S=>exact fun μ' H' b s t u=>⟨μ',S,a,s,t,u,Out.of_step s o⟩
  | exc e S=>exact o
  | stuck=>exact o
end
/-- the reading of a computation -/
def tM (X:Cx) {α β:Type} (R:Mu→Hp→α→β→Prop) (W:WX) (m:En→Sto→Res α):L2.St→Hp→(β→Hp→Prop)→Prop:=fun σ H Q=>
  ∃env S μ,Rl X.K X.mg μ H env σ S∧Out X.K X.mg W σ μ H R Q (m env S)
abbrev tE (X:Cx) (W:WX) (m:ME):TE:=tM X (fun μ H a b=>Rep X.K X.mg μ H a b) W m
abbrev tAs (X:Cx) (W:WX) (m:MA):TA:=tM X (fun μ H a b=>RepAll X.K X.mg μ H a b) W m
abbrev tT (X:Cx) (W:WX) (m:MT):TT:=tM X (fun _ _ a b=>b=a) W m
theorem bt {X:Cx} {e:Expr} {t t':TE} (h:PE X e t) (i:∀σ H Q,t' σ H Q→t σ H Q):PE X e t':=⟨fun pins s σ H Q I w=>h.run pins s σ H Q I (i σ H Q w)⟩
theorem sy {X:Cx} {e:Expr} {t t':TT} (h:PT X e t) (i:∀σ H Q,t' σ H Q→t σ H Q):PT X e t':=⟨fun pins s σ H Q I w=>h.run pins s σ H Q I (i σ H Q w)⟩
theorem pw_to {X:Cx} {e:Expr} {t t':TT} (h:PW X e t) (i:∀σ H Q,t' σ H Q→t σ H Q):PW X e t':=⟨fun wh pins s σ H Q I w=>h.run wh pins s σ H Q I (i σ H Q w)⟩
theorem pa_to {X:Cx} {e:List Expr} {t t':TA} (h:PA X e t) (i:∀σ H Q,t' σ H Q→t σ H Q):PA X e t':=⟨fun p pins s σ H Q I w=>h.run p pins s σ H Q I (i σ H Q w)⟩
def vt:D→D
  | .tpn xs=>.tup xs
  | d=>d
def view0 (S:Sto):D→D
  | .loc l=>match S[l]? with
    | some (.lst xs)=>.lst xs
    | _=>.loc l
  | d=>d
def view (S:Sto) (d:D):D:=vt (view0 S d)
section
variable (K:PySem.W.Frag) (mg:Str→Option Value)
def RepV (μ:Mu) (H:Hp):D→V→Prop
  | .lst ds,v=>∃a vs,v=.ref a∧H a=some (.lst vs)∧RepAll K mg μ H ds vs
  | d,v=>Rep K mg μ H d v
def RepW (μ:Mu) (H:Hp):D→V→Prop
  | .lst ds,v=>∃a vs,v=.ref a∧H a=some (.lst vs)∧RepAll K mg μ H ds vs
  | .tup ds,v=>∃a vs,v=.ref a∧Rd H a (.tup vs)∧RepAll K mg μ H ds vs∧a∉μ
  | d,v=>Rep K mg μ H d v
end
section
variable {K:PySem.W.Frag} {mg:Str→Option Value} {μ μ1:Mu} {H H1:Hp} {S:Sto}
theorem Rep.wv {d:D} {v:V} (h:Rep K mg μ H d v):RepV K mg μ H d v:=by
  cases d with
  | lst ds=>
    unfold Rep at h
    obtain ⟨a,vs,e,h1,_,h2⟩:=h
    exact ⟨a,vs,e,h1,h2⟩
  | _=>exact h
theorem RepV.vt {d:D} {v:V} (h:RepV K mg μ H d v):RepW K mg μ H (vt d) v:=by
  cases d with
  | lst ds=>exact h
  | tup ds=>
    have h:Rep K mg μ H (.tup ds) v:=h
    unfold Rep at h
    obtain ⟨a,vs,e,h1,n,h2⟩:=h
    exact ⟨a,vs,e,.of h1,h2,n⟩
  | tpn ds=>
    have h:Rep K mg μ H (.tpn ds) v:=h
    unfold Rep at h
    obtain ⟨a,vs,o,e,⟨h1,_⟩,n,h2⟩:=h
    exact ⟨a,vs,e,.inr ⟨o,h1⟩,h2,n⟩
  | _=>exact h
theorem Rep.w {d:D} {v:V} (h:Rep K mg μ H d v):RepW K mg μ H d v:=by
  cases d with
  | lst ds=>exact h.wv
  | tup ds=>exact h.wv.vt
  | _=>exact h
theorem RelS.view0 (rs:RelS K mg μ H S) {d:D} {v:V} (h:Rep K mg μ H d v):RepV K mg μ H (view0 S d) v:=by
  cases d with
  | loc l=>
    show RepV K mg μ H (match S[l]? with|some (.lst xs)=>.lst xs|_=>.loc l) v
    split
    · rename_i xs e
      unfold Rep at h
      obtain ⟨a,ev,ha⟩:=h
      obtain ⟨a',h1,vs,h2,h3⟩:=rs.at_ l _ e
      rw[ha] at h1; cases h1
      exact ⟨a,vs,ev,h2,h3⟩
    · exact h.wv
  | _=>exact h.wv
theorem RelS.view (rs:RelS K mg μ H S) {d:D} {v:V} (h:Rep K mg μ H d v):RepW K mg μ H (view S d) v:=(rs.view0 h).vt
end
def rS (K:PySem.W.Frag) (mg:Str→Option Value) (f:Sto→D→D→Option D):R2:=fun x y H Q=>
  ∃μ S a b d,RelS K mg μ H S∧Rep K mg μ H a x∧Rep K mg μ H b y∧f S a b=some d∧∀H' v,Sm H H'→Rep K mg μ H' d v→Q v H'
def lv (f:D→D→Option D):Sto→D→D→Option D:=fun S a b=>f (view S a) (view S b)
def lv0 (f:D→D→Option D):Sto→D→D→Option D:=fun S a b=>f (view0 S a) (view0 S b)
abbrev rP (K:PySem.W.Frag) (mg:Str→Option Value) (f:D→D→Option D):R2:=rS K mg (lv f)
def aK (f:Sto→D→D→Option D) (ma mb:ME):ME:=fun env S=>(ma env S).bind fun a S=>(mb env S).bind fun b S=>ofO S (f S a b)
section
variable {X:Cx} {W:WX} {a b:Expr} {pos:Pos} {ma mb:ME}
theorem s0 {f:Sto→D→D→Option D} {σ:L2.St} {H:Hp} {Q:VK} (h:tE X W (aK f ma mb) σ H Q):tOp (rS X.K X.mg f) (tE X W ma) (tE X W mb) σ H Q:=by
  obtain ⟨env,S,μ,rl,o⟩:=h
  refine ⟨env,S,μ,rl,(Out.bind o).mono fun x H1 ⟨μ1,S1,da,st,rs,ra,o1⟩=>?_⟩
  refine ⟨env,S1,μ1,⟨rl.env.step st,rs⟩,(Out.bind o1).mono fun y H2 ⟨μ2,S2,db,st2,rs2,rb,o2⟩=>?_⟩
  cases e:f S2 da db with
  | none=>rw[e] at o2; exact o2.elim
  | some d=>
    rw[e] at o2
    exact ⟨μ2,S2,_,_,d,rs2,Rep.step st2 _ _ ra,rb,e,fun H' v sm r=>o2 μ2 H' v (.of_sm sm) (rs2.sm sm) r⟩
theorem aP {op:Operator} {f:Sto→D→D→Option D} (ho:OpR X (binaryOp op) (rS X.K X.mg f)) (ha:PE X a (tE X W ma)) (hb:PE X b (tE X W mb)):PE X (.BinOp a op b pos) (tE X W (aK f ma mb)):=
  bt (pe_op ho ha hb) fun _ _ _ h=>s0 h
theorem fb {op:CmpOp} {f:Sto→D→D→Option D} (ho:OpR X (compareOp op) (rS X.K X.mg f)) (ha:PE X a (tE X W ma)) (hb:PE X b (tE X W mb)) (hm:behindInMarks op b=false):PE X (.Compare a [op] [b] pos) (tE X W (aK f ma mb)):=
  bt (pe_cmpR ho ha hb hm) fun _ _ _ h=>s0 h
/-- a computation whose value is a bool,as a test -/
def tOf (m:ME):MT:=fun env S=>(m env S).bind fun d S=>match d with
  | .bool b=>.ok b S
  | _=>.stuck
theorem t_of {m:ME} {σ:L2.St} {H:Hp} {Q:Bool→Hp→Prop} (h:tT X W (tOf m) σ H Q):tTest (tE X W m) σ H Q:=by
  obtain ⟨env,S,μ,rl,o⟩:=h
  refine ⟨env,S,μ,rl,(Out.bind o).mono fun x H1 ⟨μ1,S1,d,st,rs,r,o1⟩=>?_⟩
  cases d with
  | bool b=>unfold Rep at r; exact ⟨b,r,o1 μ1 H1 b .refl rs rfl⟩
  | _=>exact o1.elim
theorem aY {op:CmpOp} {f:Sto→D→D→Option D} (ho:OpR X (compareOp op) (rS X.K X.mg f)) (ha:PE X a (tE X W ma)) (hb:PE X b (tE X W mb)) (hm:behindInMarks op b=false):PT X (.Compare a [op] [b] pos) (tT X W (tOf (aK f ma mb))):=
  sy (pt_cmpR ho ha hb hm) fun σ H Q h=>by
    obtain h:=t_of h
    obtain ⟨env,S,μ,rl,o⟩:=h
    exact s0 ⟨env,S,μ,rl,o⟩
end
def oI (g:Int→Int→Int):D→D→Option D
  | .int i,.int j=>some (.int (g i j))
  | _,_=>none
def oIC (C:Int→Int→Bool) (g:Int→Int→Int):D→D→Option D
  | .int i,.int j=>if C i j then some (.int (g i j)) else none
  | _,_=>none
def oIB (g:Int→Int→Bool):D→D→Option D
  | .int i,.int j=>some (.bool (g i j))
  | _,_=>none
theorem RepW.int {K:PySem.W.Frag} {mg:Str→Option Value} {μ:Mu} {H:Hp} {i:Int} {v:V} (h:RepW K mg μ H (.int i) v):v=.int i:=by
  have h:Rep K mg μ H (.int i) v:=h
  unfold Rep at h; exact h
theorem RepW.str {K:PySem.W.Frag} {mg:Str→Option Value} {μ:Mu} {H:Hp} {i:Str} {v:V} (h:RepW K mg μ H (.str i) v):v=.str i:=by
  have h:Rep K mg μ H (.str i) v:=h
  unfold Rep at h; exact h
theorem RepW.tup {K:PySem.W.Frag} {mg:Str→Option Value} {μ:Mu} {H:Hp} {ds:List D} {v:V} (h:RepW K mg μ H (.tup ds) v):∃a vs,v=.ref a∧Rd H a (.tup vs)∧RepAll K mg μ H ds vs∧a∉μ:=h
section
variable {X:Cx}
theorem bB {K:PySem.W.Frag} {mg:Str→Option Value} {μ:Mu} {H:Hp} (i:Int):Rep K mg μ H (.int i) (.int i):=by unfold Rep; rfl
theorem cI {K:PySem.W.Frag} {mg:Str→Option Value} {μ:Mu} {H:Hp} (i:Bool):Rep K mg μ H (.bool i) (.bl i):=by unfold Rep; rfl
theorem gN {K:PySem.W.Frag} {mg:Str→Option Value} {μ:Mu} {H:Hp} (i:Str):Rep K mg μ H (.str i) (.str i):=by unfold Rep; rfl
theorem lc {K:PySem.W.Frag} {mg:Str→Option Value} {μ:Mu} {H:Hp}:Rep K mg μ H .none .non:=by unfold Rep; rfl
theorem xH {f:Value→Value→Sem Value} {r r':R2} (h:OpR X f r) (i:∀x y H Q,r' x y H Q→r x y H Q):OpR X f r':=fun pins s σ H x y v u Q I rx ry w=>h pins s σ H x y v u Q I rx ry (i _ _ _ _ w)
/-- an operator over views -/
theorem nE {f:Value→Value→Sem Value} {g:D→D→Option D} {r:R2} (h:OpR X f r)
    (i:∀μ x y H Q a b d,RepW X.K X.mg μ H a x→RepW X.K X.mg μ H b y→g a b=some d→(∀H' v,Sm H H'→Rep X.K X.mg μ H' d v→Q v H')→r x y H Q):OpR X f (rP X.K X.mg g):=
  xH h fun x y H Q ⟨μ,S,a,b,d,rs,ra,rb,e,q⟩=>i μ x y H Q _ _ d (rs.view ra) (rs.view rb) e q
theorem opI_D {f:Value→Value→Sem Value} {g:Int→Int→Int} (h:OpR X f (rI0 fun i j=>.int (g i j))):OpR X f (rP X.K X.mg (oI g)):=nE h fun μ x y H Q a b d ra rb e q=>by
  unfold oI at e
  split at e
  · cases e
    exact ⟨_,_,ra.int,rb.int,q H _ .rfl (bB _)⟩
  · cases e
theorem oL {f:Value→Value→Sem Value} {C:Int→Int→Prop} {Cb:Int→Int→Bool} {g:Int→Int→Int} (hC:∀i j,Cb i j=true→C i j) (h:OpR X f (rI C fun i j=>.int (g i j))):OpR X f (rP X.K X.mg (oIC Cb g)):=nE h fun μ x y H Q a b d ra rb e q=>by
  unfold oIC at e
  split at e
  · split at e
    · rename_i hc
      cases e
      exact ⟨_,_,ra.int,rb.int,hC _ _ hc,q H _ .rfl (bB _)⟩
    · cases e
  · cases e
theorem oM {f:Value→Value→Sem Value} {g:Int→Int→Bool} (h:OpR X f (rI0 fun i j=>.bl (g i j))):OpR X f (rP X.K X.mg (oIB g)):=nE h fun μ x y H Q a b d ra rb e q=>by
  unfold oIB at e
  split at e
  · cases e
    exact ⟨_,_,ra.int,rb.int,q H _ .rfl (cI _)⟩
  · cases e
def bT (i j:Int):Bool:=(decide (-(2 ^ 64)<i)&&decide (i<2 ^ 64))||(decide (-(2 ^ 64)<j)&&decide (j<2 ^ 64))
def iR (_ j:Int):Bool:=decide (0<j)&&decide (j<1073741824)
def eE (_ j:Int):Bool:=decide (0<j)
def cPow (i j:Int):Bool:=decide (0≤j)&&decide (j≤1000000)&&decide (i.natAbs<2 ^ 64)
abbrev pS:=oI (fun i j=>i - j)
abbrev dI:=oIC bT (fun i j=>i*j)
abbrev dDiv:=oIC iR (fun i j=>i / j)
abbrev lF:=oIC eE (fun i j=>i % j)
abbrev dPow:=oIC cPow (fun i j=>i ^ j.toNat)
abbrev dLt:=oIB (fun i j=>decide (i<j))
abbrev dLe:=oIB (fun i j=>decide (i≤j))
abbrev dGt:=oIB (fun i j=>decide (j<i))
abbrev dGe:=oIB (fun i j=>decide (j≤i))
theorem lg:OpR X (binaryOp .Sub) (rP X.K X.mg pS):=opI_D op_sub
theorem cP:OpR X (binaryOp .Mult) (rP X.K X.mg dI):=oL (fun i j h=>by
  simp only[bT,Bool.or_eq_true,Bool.and_eq_true,decide_eq_true_eq] at h; exact h) op_mul
theorem tA:OpR X (binaryOp .FloorDiv) (rP X.K X.mg dDiv):=oL (fun i j h=>by
  simp only[iR,Bool.and_eq_true,decide_eq_true_eq] at h; exact h) op_fdiv
theorem gx:OpR X (binaryOp .Mod) (rP X.K X.mg lF):=oL (C:=fun _ j=>0<j) (fun i j h=>by
  simp only[eE,decide_eq_true_eq] at h; exact h) op_mod
theorem o_pow:OpR X (binaryOp .Pow) (rP X.K X.mg dPow):=oL (fun i j h=>by
  simp only[cPow,Bool.and_eq_true,decide_eq_true_eq] at h; exact ⟨h.1.1,h.1.2,h.2⟩) op_pow
theorem o_lt:OpR X (compareOp .Lt) (rP X.K X.mg dLt):=oM op_lt
theorem rN:OpR X (compareOp .LtE) (rP X.K X.mg dLe):=oM op_le
theorem o_gt:OpR X (compareOp .Gt) (rP X.K X.mg dGt):=oM op_gt
theorem o_ge:OpR X (compareOp .GtE) (rP X.K X.mg dGe):=oM op_ge
def bS:D→D→Option D
  | .int i,.int j=>some (.int (i+j))
  | .str x,.str y=>if x.length+y.length≤1000000 then some (.str (x++y)) else none
  | .tup xs,.tup ys=>if xs.length+ys.length≤1000000 then some (.tup (xs++ys)) else none
  | .lst xs,.lst ys=>if xs.length+ys.length≤1000000 then some (.lst (xs++ys)) else none
  | .tpn xs,.tup ys=>if xs.length+ys.length≤1000000 then some (if xs=[] then .tup ys else if ys=[] then .tpn xs else .tup (xs++ys)) else none
  | .tup xs,.tpn ys=>if xs.length+ys.length≤1000000 then some (if xs=[] then .tpn ys else .tup (xs++ys)) else none
  | .tpn xs,.tpn ys=>if xs.length+ys.length≤1000000 then some (if xs=[] then .tpn ys else if ys=[] then .tpn xs else .tup (xs++ys)) else none
  | _,_=>none
theorem cY {n:Nat} (h:n≤1000000):n≤sizeLine:=by rw[sizeLine_eq]; omega
end
end DL
namespace DL
open PySem PySem.Spec PyProof.Rows L2
theorem bG {K:PySem.W.Frag} {mg:Str→Option Value} {μ:Mu} {H:Hp} {S:Sto} (rs:RelS K mg μ H S) {p:Addr} (hp:H p=none) {ds:List D} {vs:List V} (l:RepAll K mg μ H ds vs) :
    Rep K mg μ (upd H p (.tup vs)) (.tup ds) (.ref p):=by
  unfold Rep
  exact ⟨p,vs,rfl,upd_same,rs.fresh hp,RepAll.step (.of_sm (.upd hp)) _ _ l⟩
theorem cA {K:PySem.W.Frag} {mg:Str→Option Value} {μ:Mu} {H:Hp} {S:Sto} (rs:RelS K mg μ H S) {p:Addr} (hp:H p=none) {ds:List D} {vs:List V} (l:RepAll K mg μ H ds vs) :
    Rep K mg μ (upd H p (.lst vs)) (.lst ds) (.ref p):=by
  unfold Rep
  exact ⟨p,vs,rfl,upd_same,rs.fresh hp,RepAll.step (.of_sm (.upd hp)) _ _ l⟩
section
variable {X:Cx}
theorem RepV.int {K:PySem.W.Frag} {mg:Str→Option Value} {μ:Mu} {H:Hp} {i:Int} {v:V} (h:RepV K mg μ H (.int i) v):v=.int i:=RepW.int h
theorem RepV.str {K:PySem.W.Frag} {mg:Str→Option Value} {μ:Mu} {H:Hp} {i:Str} {v:V} (h:RepV K mg μ H (.str i) v):v=.str i:=RepW.str h
theorem jG {pins:List (Addr × Obj)} {s:Shared} {σ:L2.St} {H:Hp} {x y:V} {v u:Value} {Q:VK} {μ:Mu} {S:Sto} {a b d:D} {xs ys:List D} (I:L2.Inv X pins σ H s) (rx:L2.RelV x v) (ry:L2.RelV y u) (rs:RelS X.K X.mg μ H S)
    (ra:RepV X.K X.mg μ H a x) (rb:RepV X.K X.mg μ H b y) (va:vt a=.tup xs) (vb:vt b=.tup ys) (hz:xs.length+ys.length≤1000000)
    (h1:xs=[]→d=b) (h2:xs≠[]→ys=[]→d=a) (h3:xs≠[]→ys≠[]→d=.tup (xs++ys)) (q:∀H' v,Sm H H'→Rep X.K X.mg μ H' d v→Q v H') :
    wpAny (model X.prog X.w) X.A (binaryOp .Add v u) (EP X pins σ Q) X.xe s:=by
  have wa:=ra.vt
  have wb:=rb.vt
  rw[va] at wa
  rw[vb] at wb
  have ra':Rep X.K X.mg μ H a x:=by
    cases a with
    | tup z=>exact ra
    | tpn z=>exact ra
    | _=>cases va
  have rb':Rep X.K X.mg μ H b y:=by
    cases b with
    | tup z=>exact rb
    | tpn z=>exact rb
    | _=>cases vb
  obtain ⟨p,vs,rfl,ha,la,sa⟩:=wa
  obtain ⟨p',us,rfl,hb,lb,sb⟩:=wb
  refine op_catA pins s σ H _ _ v u Q I rx ry ⟨p,p',vs,us,rfl,rfl,.inl ha,.inl hb,?_,fun h=>q H _ .rfl ?_,fun h0 h=>q H _ .rfl ?_,fun h0 h p hp=>q _ _ (.upd hp) ?_⟩
  · rw[←la.length,←lb.length]; exact cY hz
  · subst h
    have:xs=[]:=List.length_eq_zero_iff.mp la.length
    rw[h1 this]; exact rb'
  · subst h
    have e2:ys=[]:=List.length_eq_zero_iff.mp lb.length
    have e1:xs≠[]:=fun z=>h0 (by subst z; exact List.length_eq_zero_iff.mp la.length.symm)
    rw[h2 e1 e2]; exact ra'
  · have e1:xs≠[]:=fun z=>h0 (by subst z; exact List.length_eq_zero_iff.mp la.length.symm)
    have e2:ys≠[]:=fun z=>h (by subst z; exact List.length_eq_zero_iff.mp lb.length.symm)
    rw[h3 e1 e2]
    exact bG rs hp (la.append lb)
theorem ax:OpR X (binaryOp .Add) (rS X.K X.mg (lv0 bS)):=by
  intro pins s σ H x y v u Q I rx ry ⟨μ,S,a,b,d,rs,ra,rb,e,q⟩
  have ra:=rs.view0 ra
  have rb:=rs.view0 rb
  simp only[lv0] at e
  generalize view0 S a=a at *
  generalize view0 S b=b at *
  unfold bS at e
  split at e
  · cases e
    exact op_add pins s σ H x y v u Q I rx ry ⟨_,_,ra.int,rb.int,q H _ .rfl (bB _)⟩
  · split at e
    · rename_i hz
      cases e
      exact op_add_str pins s σ H x y v u Q I rx ry ⟨_,_,ra.str,rb.str,cY hz,q H _ .rfl (gN _)⟩
    · cases e
  · split at e
    · rename_i xs ys hz
      cases e
      exact jG I rx ry rs ra rb rfl rfl hz (fun h=>by subst h; rfl) (fun _ h=>by subst h; rw[List.append_nil]) (fun _ _=>rfl) q
    · cases e
  · split at e
    · rename_i xs ys hz
      cases e
      obtain ⟨a,vs,ea,ha,la⟩:=ra
      obtain ⟨b,us,eb,hb,lb⟩:=rb
      refine op_cat pins s σ H x y v u Q I rx ry ⟨a,b,vs,us,ea,eb,ha,hb,by rw[←la.length,←lb.length]; exact cY hz,fun p hp=>q _ _ (.upd hp) ?_⟩
      exact cA rs hp (la.append lb)
    · cases e
  · split at e
    · rename_i xs ys hz
      cases e
      exact jG I rx ry rs ra rb rfl rfl hz (fun h=>by rw[if_pos h]) (fun h h'=>by rw[if_neg h,if_pos h']) (fun h h'=>by rw[if_neg h,if_neg h']) q
    · cases e
  · split at e
    · rename_i xs ys hz
      cases e
      exact jG I rx ry rs ra rb rfl rfl hz (fun h=>by rw[if_pos h]) (fun h h'=>by rw[if_neg h,h',List.append_nil]) (fun h h'=>by rw[if_neg h]) q
    · cases e
  · split at e
    · rename_i xs ys hz
      cases e
      exact jG I rx ry rs ra rb rfl rfl hz (fun h=>by rw[if_pos h]) (fun h h'=>by rw[if_neg h,if_pos h']) (fun h h'=>by rw[if_neg h,if_neg h']) q
    · cases e
  · cases e
end
def dok:Nat→D→Bool
  | _,.none=>true
  | _,.bool _=>true
  | _,.int _=>true
  | _,.str x=>PyData.strOk x
  | n+1,.tup xs=>xs.all (dok n)
  | n+1,.lst xs=>xs.all (dok n)
  | n+1,.tpn xs=>xs.all (dok n)
  | _,_=>false
mutual
def pdF:D→PyData
  | .none=>.none
  | .bool b=>.bool b
  | .int i=>.int i
  | .str x=>.str x
  | .tup xs=>.tuple (pdFs xs)
  | .lst xs=>.list (pdFs xs)
  | .tpn xs=>.tuple (pdFs xs)
  | .ro _=>.none
  | .ty _=>.none
  | .loc _=>.none
  | .glo _=>.none
  | .adr _=>.none
  | .clo _ _ _ _=>.none
  | .exn _ _ _ _=>.none
def pdFs:List D→List PyData
  | []=>[]
  | d::ds=>pdF d::pdFs ds
end
theorem lI:∀(ds:List D) (n:Nat),(∀d∈ds,(pdF d).canLay0=true∧(pdF d).depth≤n)→PyData.canLayAll0 (pdFs ds)=true∧PyData.depthAll (pdFs ds)≤n
  | [],n,_=>⟨by unfold pdFs PyData.canLayAll0; rfl,by unfold pdFs PyData.depthAll; omega⟩
  | d::ds,n,h=>by
    obtain ⟨a,b⟩:=h d List.mem_cons_self
    obtain ⟨c,e⟩:=lI ds n fun x hx=>h x (List.mem_cons_of_mem _ hx)
    unfold pdFs PyData.canLayAll0 PyData.depthAll
    exact ⟨by rw[a,c]; rfl,by omega⟩
theorem dz:∀(n:Nat) (d:D),dok n d=true→(pdF d).canLay0=true∧(pdF d).depth≤n
  | n,.none,_=>by unfold pdF PyData.canLay0 PyData.depth; exact ⟨rfl,Nat.zero_le _⟩
  | n,.bool _,_=>by unfold pdF PyData.canLay0 PyData.depth; exact ⟨rfl,Nat.zero_le _⟩
  | n,.int _,_=>by unfold pdF PyData.canLay0 PyData.depth; exact ⟨rfl,Nat.zero_le _⟩
  | n,.str x,h=>by
    have h:PyData.strOk x=true:=by cases n<;>exact h
    unfold pdF PyData.canLay0 PyData.depth; exact ⟨h,Nat.zero_le _⟩
  | 0,.tup _,h=>by cases h
  | 0,.lst _,h=>by cases h
  | 0,.tpn _,h=>by cases h
  | n+1,.tpn xs,h=>by
    have h:xs.all (dok n)=true:=h
    have q:=lI xs n fun d hd=>dz n d (List.all_eq_true.mp h d hd)
    unfold pdF PyData.canLay0 PyData.depth
    exact ⟨q.1,by omega⟩
  | n+1,.tup xs,h=>by
    have h:xs.all (dok n)=true:=h
    have q:=lI xs n fun d hd=>dz n d (List.all_eq_true.mp h d hd)
    unfold pdF PyData.canLay0 PyData.depth
    exact ⟨q.1,by omega⟩
  | n+1,.lst xs,h=>by
    have h:xs.all (dok n)=true:=h
    have q:=lI xs n fun d hd=>dz n d (List.all_eq_true.mp h d hd)
    unfold pdF PyData.canLay0 PyData.depth
    exact ⟨q.1,by omega⟩
  | n,.ro _,h=>by cases n<;>cases h
  | n,.ty _,h=>by cases n<;>cases h
  | n,.loc _,h=>by cases n<;>cases h
  | n,.glo _,h=>by cases n<;>cases h
  | n,.adr _,h=>by cases n<;>cases h
  | n,.clo _ _ _ _,h=>by cases n<;>cases h
  | n,.exn _ _ _ _,h=>by cases n<;>cases h
theorem dC {d:D} (h:dok 60 d=true):SeqAt.shaped (pdF d)=true:=by
  obtain ⟨a,b⟩:=dz 60 d h
  unfold SeqAt.shaped
  rw[a,Bool.true_and]
  exact decide_eq_true (by omega)
section
variable {K:PySem.W.Frag} {mg:Str→Option Value} {μ:Mu} {H:Hp}
mutual
theorem fU:∀(n:Nat) (d:D) (v:V),dok n d=true→RepW K mg μ H d v→Dp K H v (pdF d)
  | n,.none,v,_,r=>by
    have r:Rep K mg μ H .none v:=r
    unfold Rep at r; subst r; unfold pdF; exact .non
  | n,.bool _,v,_,r=>by
    have r:Rep K mg μ H (.bool _) v:=r
    unfold Rep at r; subst r; unfold pdF; exact .bl _
  | n,.int _,v,_,r=>by rw[r.int]; unfold pdF; exact .int _
  | n,.str _,v,_,r=>by rw[r.str]; unfold pdF; exact .str _
  | 0,.tup _,_,h,_=>by cases h
  | 0,.lst _,_,h,_=>by cases h
  | n+1,.tup xs,v,h,r=>by
    obtain ⟨a,vs,e,h1,h2,_⟩:=r.tup
    subst e; unfold pdF
    exact .tup (.inl h1) (dps_of n xs vs h h2)
  | 0,.tpn _,_,h,_=>by cases h
  | n+1,.tpn xs,v,h,r=>by
    have r:Rep K mg μ H (.tpn xs) v:=r
    unfold Rep at r
    obtain ⟨a,vs,o,e,⟨h1,_⟩,nn,h2⟩:=r
    subst e; unfold pdF
    exact .tup (.inl (.inr ⟨o,h1⟩)) (dps_of n xs vs h h2)
  | n+1,.lst xs,v,h,r=>by
    obtain ⟨a,vs,e,h1,h2⟩:=r
    subst e; unfold pdF
    exact .lst (.of h1) (dps_of n xs vs h h2)
  | n,.ro _,_,h,_=>by cases n<;>cases h
  | n,.ty _,_,h,_=>by cases n<;>cases h
  | n,.loc _,_,h,_=>by cases n<;>cases h
  | n,.glo _,_,h,_=>by cases n<;>cases h
  | n,.adr _,_,h,_=>by cases n<;>cases h
  | n,.clo _ _ _ _,_,h,_=>by cases n<;>cases h
  | n,.exn _ _ _ _,_,h,_=>by cases n<;>cases h
theorem dps_of:∀(n:Nat) (ds:List D) (vs:List V),ds.all (dok n)=true→RepAll K mg μ H ds vs→DpAll K H vs (pdFs ds)
  | n,[],vs,_,r=>by unfold RepAll at r; subst r; unfold pdFs; exact .nil
  | n,d::ds,vs,h,r=>by
    unfold RepAll at r
    obtain ⟨v,q,rfl,h1,h2⟩:=r
    rw[List.all_cons,Bool.and_eq_true] at h
    unfold pdFs
    exact .cons (fU n d v h.1 h1.w) (dps_of n ds q h.2 h2)
end
end
/-- == -/
def peq (a b:D):Bool:=PyData.eqv (pdF a) (pdF b)
def dEq:D→D→Option D:=fun a b=>if dok 60 a&&dok 60 b then some (.bool (peq a b)) else none
def dNe:D→D→Option D:=fun a b=>if dok 60 a&&dok 60 b then some (.bool (!peq a b)) else none
section
variable {X:Cx}
theorem lG (hu:X.A.units+64<cLine):OpR X (compareOp .Eq) (rP X.K X.mg dEq):=nE (op_eqD hu) fun μ x y H Q a b d ra rb e q=>by
  unfold dEq at e
  split at e
  · rename_i h
    cases e
    rw[Bool.and_eq_true] at h
    exact ⟨_,_,fU 60 a x h.1 ra,fU 60 b y h.2 rb,dC h.1,dC h.2,q H _ .rfl (cI _)⟩
  · cases e
theorem ig (hu:X.A.units+64<cLine):OpR X (compareOp .NotEq) (rP X.K X.mg dNe):=nE (op_neD hu) fun μ x y H Q a b d ra rb e q=>by
  unfold dNe at e
  split at e
  · rename_i h
    cases e
    rw[Bool.and_eq_true] at h
    exact ⟨_,_,fU 60 a x h.1 ra,fU 60 b y h.2 rb,dC h.1,dC h.2,q H _ .rfl (cI _)⟩
  · cases e
/-- is None -/
def isN:D→Bool
  | .none=>true
  | _=>false
def dIsN:D→D→Option D
  | a,.none=>some (.bool (isN a))
  | _,_=>none
def oN:D→D→Option D
  | a,.none=>some (.bool (!isN a))
  | _,_=>none
theorem vA {K:PySem.W.Frag} {mg:Str→Option Value} {μ:Mu} {H:Hp} {a:D} {x:V} (r:RepW K mg μ H a x):decide (x=V.non)=isN a:=by
  cases a with
  | none=>have r:Rep K mg μ H .none x:=r; unfold Rep at r; subst r; rfl
  | bool b=>have r:Rep K mg μ H (.bool b) x:=r; unfold Rep at r; subst r; rfl
  | int i=>rw[r.int]; rfl
  | str i=>rw[r.str]; rfl
  | ty n=>have r:Rep K mg μ H (.ty n) x:=r; unfold Rep at r; subst r; rfl
  | tup ds=>obtain ⟨a,vs,e,_⟩:=r.tup; subst e; rfl
  | lst ds=>obtain ⟨a,vs,e,_⟩:=r; subst e; rfl
  | ro ds=>have r:Rep K mg μ H (.ro ds) x:=r; unfold Rep at r; obtain ⟨a,vs,e,_⟩:=r; subst e; rfl
  | loc l=>have r:Rep K mg μ H (.loc l) x:=r; unfold Rep at r; obtain ⟨a,e,_⟩:=r; subst e; rfl
  | glo l=>have r:Rep K mg μ H (.glo l) x:=r; unfold Rep at r; obtain ⟨a,e,_⟩:=r; subst e; rfl
  | adr l=>have r:Rep K mg μ H (.adr l) x:=r; unfold Rep at r; subst r; rfl
  | clo k b q F=>have r:Rep K mg μ H (.clo k b q F) x:=r; unfold Rep at r; obtain ⟨a,_,_,_,_,e,_⟩:=r; subst e; rfl
  | exn a dd ns ds=>have r:Rep K mg μ H (.exn a dd ns ds) x:=r; unfold Rep at r; obtain ⟨vs,e,_⟩:=r; subst e; rfl
  | tpn ds=>have r:Rep K mg μ H (.tpn ds) x:=r; unfold Rep at r; obtain ⟨a,vs,o,e,_⟩:=r; subst e; rfl
theorem o_isnt:OpR X (compareOp .IsNot) (rP X.K X.mg oN):=nE op_notN fun μ x y H Q a b d ra rb e q=>by
  unfold oN at e
  split at e
  · cases e
    have rb:Rep X.K X.mg μ H .none y:=rb
    unfold Rep at rb
    refine ⟨rb,?_⟩
    rw[vA ra]
    exact q H _ .rfl (cI _)
  · cases e
end
def cJ:D→Option Key
  | .int i=>some (.inl i)
  | .str x=>some (.inr x)
  | _=>none
def ii:List D→Option (List Key)
  | []=>some []
  | d::ds=>match cJ d,ii ds with
    | some k,some ks=>some (k::ks)
    | _,_=>none
def e9:D→Option (List Key)
  | .tup ds=>ii ds
  | _=>none
theorem li {d:D} {k:Key} (h:cJ d=some k):d=de k:=by
  cases d<;>simp[cJ] at h<;>subst h<;>rfl
theorem kZ:∀ {ds:List D} {ks:List Key},ii ds=some ks→ds=ks.map de
  | [],ks,h=>by simp[ii] at h; subst h; rfl
  | d::ds,ks,h=>by
    unfold ii at h
    split at h
    · rename_i k ks' h1 h2
      cases h
      rw[li h1,kZ h2]; rfl
    · cases h
theorem pT {d:D} {k:List Key} (h:e9 d=some k):d=fT k:=by
  cases d<;>simp[e9] at h
  rw[kZ h]; rfl
theorem ij (k:Key):cJ (de k)=some k:=by cases k<;>rfl
theorem lj:∀ks:List Key,ii (ks.map de)=some ks
  | []=>rfl
  | k::ks=>by
    show (match cJ (de k),ii (ks.map de) with|some k,some ks=>some (k::ks)|_,_=>none)=_
    rw[ij,lj ks]
theorem jH (k:List Key):e9 (fT k)=some k:=lj k
end DL
namespace DL
open PySem PySem.Spec PyProof.Rows L2
def cB (t:Bool) (k:D):Bool:=if t then (e9 k).isSome else (cJ k).isSome
/-- two keys alike -/
def keq:Bool→D→D→Bool
  | false,a,b=>decide (cJ a=cJ b)
  | true,a,b=>decide (e9 a=e9 b)
def cz (t:Bool) (kvs:List (D × D)) (k:D):Option D:=(kvs.find? fun p=>keq t p.1 k).map (·.2)
section
variable {K:PySem.W.Frag} {mg:Str→Option Value} {μ:Mu} {H:Hp}
theorem iI {k:Key} {y:V} (h:Rep K mg μ H (de k) y):y=kV k:=by
  cases k<;>(unfold de Rep at h; exact h)
theorem pU:∀ {ks:List Key} {ys:List V},RepAll K mg μ H (ks.map de) ys→ys=ks.map kV
  | [],ys,h=>by
    have h:RepAll K mg μ H [] ys:=h
    unfold RepAll at h; exact h
  | k::ks,ys,h=>by
    have h:RepAll K mg μ H (de k::ks.map de) ys:=h
    unfold RepAll at h
    obtain ⟨v,r,rfl,h1,h2⟩:=h
    rw[iI h1,pU h2]; rfl
theorem jI {k:List Key} {y:V} (h:Rep K mg μ H (fT k) y):∃b,y=.ref b∧H b=some (.tup (k.map kV)):=by
  unfold fT Rep at h
  obtain ⟨a,vs,e,h1,_,h2⟩:=h
  rw[pU h2] at h1
  exact ⟨a,e,h1⟩
/-- what is looked up in rows and in values alike -/
theorem gy {κ:Type} [DecidableEq κ] {f:κ→D} {g:D→D→Bool} (hg:∀a b,g (f a) (f b)=decide (a=b)) (k:κ):∀ {kvs:List (D × D)} {ks:List κ} {vs:List V},kvs.map (·.1)=ks.map f→RepAll K mg μ H (kvs.map (·.2)) vs→
    match (kvs.find? fun p=>g p.1 (f k)).map (·.2) with
    | some d=>∃v,valV (ks.zip vs) k=some v∧Rep K mg μ H d v
    | none=>valV (ks.zip vs) k=none
  | [],ks,vs,h,_=>by
    have:ks=[]:=by cases ks with|nil=>rfl|cons a b=>cases h
    subst this; rfl
  | (a,d)::kvs,[],vs,h,_=>by cases h
  | (a,d)::kvs,k'::ks,vs,h,r=>by
    have r:RepAll K mg μ H (d::kvs.map (·.2)) vs:=r
    unfold RepAll at r
    obtain ⟨v,q,rfl,r1,r2⟩:=r
    injection h with h1 h2
    have h1:a=f k':=h1
    subst h1
    have ih:=gy hg k h2 r2
    rw[List.find?_cons]
    by_cases e:k'=k
    · subst e
      have:g (f k') (f k')=true:=by rw[hg]; simp
      simp only[this]
      exact ⟨v,by rw[List.zip_cons_cons]; exact valV_pos rfl,r1⟩
    · have:g (f k') (f k)=false:=by rw[hg]; simp[e]
      simp only[this]
      rw[List.zip_cons_cons]
      rw[valV_neg e]
      exact ih
theorem pV (a b:Key):keq false (de a) (de b)=decide (a=b):=by
  show decide (cJ (de a)=cJ (de b))=_
  rw[ij,ij]
  by_cases h:a=b
  · subst h; simp
  · simp[h]
theorem tB (a b:List Key):keq true (fT a) (fT b)=decide (a=b):=by
  show decide (e9 (fT a)=e9 (fT b))=_
  rw[jH,jH]
  by_cases h:a=b
  · subst h; simp
  · simp[h]
theorem pW {k:D} (h:cB false k=true):∃kk,k=de kk:=by
  unfold cB at h
  obtain ⟨kk,e⟩:=Option.isSome_iff_exists.mp h
  exact ⟨kk,li e⟩
theorem tC {k:D} (h:cB true k=true):∃kk,k=fT kk:=by
  unfold cB at h
  obtain ⟨kk,e⟩:=Option.isSome_iff_exists.mp h
  exact ⟨kk,pT e⟩
/-- what a dict holds,locked or not -/
def c4:Option O→Option (Bool × List (D × D))
  | some (.dct t kvs)=>some (t,kvs)
  | some (.fdc t kvs)=>some (t,kvs)
  | _=>none
theorem ik {x:Option O} {t:Bool} {kvs:List (D × D)} (h:c4 x=some (t,kvs)):x=some (.dct t kvs)∨x=some (.fdc t kvs):=by
  unfold c4 at h
  split at h
  · cases h; exact .inl rfl
  · cases h; exact .inr rfl
  · cases h
theorem xI {t:Bool} {kvs:List (D × D)} {a:Addr} {k:D} {y:V} (h:RepO K mg μ H (.dct t kvs) a) (hk:cB t k=true) (r:Rep K mg μ H k y) :
    ∃o,DGet H a y o∧match cz t kvs k with
      | some d=>∃v,o=some v∧Rep K mg μ H d v
      | none=>o=none:=by
  cases t with
  | false=>
    obtain ⟨vs,ks,⟨e,q⟩,rs⟩:=h
    obtain ⟨kk,rfl⟩:=pW hk
    rw[iI r]
    exact ⟨_,.k e,gy pV kk q rs⟩
  | true=>
    obtain ⟨vs,ks,⟨e,q⟩,rs⟩:=h
    obtain ⟨kk,rfl⟩:=tC hk
    obtain ⟨b,rfl,hb⟩:=jI r
    exact ⟨_,.t e hb,gy tB kk q rs⟩
theorem vB {t:Bool} {kvs:List (D × D)} {a:Addr} {k:D} {y:V} (h:RepO K mg μ H (.fdc t kvs) a) (hk:cB t k=true) (r:Rep K mg μ H k y) :
    ∃o,DGet H a y o∧match cz t kvs k with
      | some d=>∃v,o=some v∧Rep K mg μ H d v
      | none=>o=none:=by
  cases t with
  | false=>
    obtain ⟨vs,ks,⟨⟨od,e⟩,q⟩,rs⟩:=h
    obtain ⟨kk,rfl⟩:=pW hk
    rw[iI r]
    exact ⟨_,.inl ⟨_,kk,.inr ⟨od,e⟩,rfl,rfl⟩,gy pV kk q rs⟩
  | true=>
    obtain ⟨vs,ks,⟨⟨od,e⟩,q⟩,rs⟩:=h
    obtain ⟨kk,rfl⟩:=tC hk
    obtain ⟨b,rfl,hb⟩:=jI r
    exact ⟨_,.inr ⟨_,kk,b,.inr ⟨od,e⟩,rfl,hb,rfl⟩,gy tB kk q rs⟩
theorem pX {S:Sto} {l:Nat} {t:Bool} {kvs:List (D × D)} {a:Addr} {k:D} {y:V} (rs:RelS K mg μ H S) (hμ:μ.l[l]?=some a) (es:c4 S[l]?=some (t,kvs)) (hk:cB t k=true) (r:Rep K mg μ H k y) :
    ∃o,DGet H a y o∧match cz t kvs k with
      | some d=>∃v,o=some v∧Rep K mg μ H d v
      | none=>o=none:=by
  rcases ik es with es|es
  · obtain ⟨ad',h1,ro⟩:=rs.at_ l _ es
    rw[hμ] at h1; cases h1
    exact xI ro hk r
  · obtain ⟨ad',h1,ro⟩:=rs.at_ l _ es
    rw[hμ] at h1; cases h1
    exact vB ro hk r
end
/-- whether a is in b -/
def dIn (S:Sto) (a b:D):Option Bool:=match view S b with
  | .lst xs=>if dok 60 a&&dok 60 (.lst xs) then some (xs.any fun z=>peq z a) else none
  | .tup xs=>if dok 60 a&&dok 60 (.tup xs) then some (xs.any fun z=>peq z a) else match view0 S a with
    | .lst ys=>if dok 60 (.lst ys)&&dok 60 (.tup xs) then some (xs.any fun z=>peq z (.lst ys)) else none
    | _=>none
  | .str z=>match a with
    | .str x=>if x.cps.size=1 then some (decide (x.cps.getD 0 0∈z.cps.toList)) else none
    | _=>none
  | .loc l=>match c4 S[l]? with
    | some (t,kvs)=>if cB t a then some (cz t kvs a).isSome else none
    | none=>none
  | _=>none
def fIn:Sto→D→D→Option D:=fun S a b=>(dIn S a b).map .bool
def cZ:Sto→D→D→Option D:=fun S a b=>(dIn S a b).map fun c=>.bool (!c)
theorem vC {x:Str} (h:x.cps.size=1):x=⟨#[x.cps.getD 0 0]⟩:=by
  obtain ⟨⟨l⟩⟩:=x
  match l,h with
  | [c],_=>rfl
theorem im (a:D):∀xs:List D,((pdFs xs).any fun z=>PyData.eqv z (pdF a))=xs.any fun z=>peq z a
  | []=>by unfold pdFs; rfl
  | x::xs=>by unfold pdFs; rw[List.any_cons,List.any_cons,im a xs]; rfl
section
variable {X:Cx}
theorem tF (hu:X.A.units+65<cLine) {pins:List (Addr × Obj)} {s:Shared} {σ:L2.St} {H:Hp} {x y:V} {v u:Value} {Q:Bool→Hp→Prop} {μ:Mu} {S:Sto} {a b:D} {c:Bool} (I:L2.Inv X pins σ H s) (rx:L2.RelV x v) (ry:L2.RelV y u)
    (rs:RelS X.K X.mg μ H S) (ra:Rep X.K X.mg μ H a x) (rb:Rep X.K X.mg μ H b y) (e:dIn S a b=some c) (q:Q c H) (neg:Bool) :
    wpAny (model X.prog X.w) X.A (compareOp (if neg then .NotIn else .In) v u) (fun r s'=>∃H',L2.Inv X pins σ H' s'∧r=.bool (if neg then !c else c)∧Q c H') X.xe s:=by
  unfold dIn at e
  have rw0:=rs.view rb
  split at e
  · rename_i xs ev
    rw[ev] at rw0
    split at e
    · rename_i h
      rw[Bool.and_eq_true] at h
      cases e
      have dy:=fU 60 _ y h.2 rw0
      have dx:=fU 60 a x h.1 ra.w
      obtain ⟨as,r1⟩:=Dp.reads I _ x v dx rx
      obtain ⟨bs,r2⟩:=Dp.reads I _ y u dy ry
      unfold pdF at r2
      have hl:=(dz 60 _ h.2).1
      unfold pdF at hl
      have sd:=dC h.1
      cases neg
      · exact SeqAt.in_list_reads r2 r1 hl (SeqAt.canLay_of_shaped sd) (room_in_shaped sd hu) ⟨H,I,by rw[im]; rfl,q⟩
      · exact SeqAt.notIn_list_reads r2 r1 hl (SeqAt.canLay_of_shaped sd) (room_in_shaped sd hu) ⟨H,I,by rw[im]; rfl,q⟩
    · cases e
  · rename_i xs ev
    rw[ev] at rw0
    split at e
    · rename_i h
      rw[Bool.and_eq_true] at h
      cases e
      have dy:=fU 60 _ y h.2 rw0
      have dx:=fU 60 a x h.1 ra.w
      obtain ⟨as,r1⟩:=Dp.reads I _ x v dx rx
      obtain ⟨bs,r2⟩:=Dp.reads I _ y u dy ry
      unfold pdF at r2
      have hl:=(dz 60 _ h.2).1
      unfold pdF at hl
      have sd:=dC h.1
      cases neg
      · exact SeqAt.in_tuple_reads r2 r1 hl (SeqAt.canLay_of_shaped sd) (room_in_shaped sd hu) ⟨H,I,by rw[im]; rfl,q⟩
      · exact SeqAt.notIn_tuple_reads r2 r1 hl (SeqAt.canLay_of_shaped sd) (room_in_shaped sd hu) ⟨H,I,by rw[im]; rfl,q⟩
    · have ra0:=rs.view0 ra
      split at e
      · rename_i ys eva
        rw[eva] at ra0
        split at e
        · rename_i h
          rw[Bool.and_eq_true] at h
          cases e
          have dy:=fU 60 _ y h.2 rw0
          have dx:=fU 60 (.lst ys) x h.1 (RepV.vt ra0)
          obtain ⟨as,r1⟩:=Dp.reads I _ x v dx rx
          obtain ⟨bs,r2⟩:=Dp.reads I _ y u dy ry
          unfold pdF at r2
          have hl:=(dz 60 _ h.2).1
          unfold pdF at hl
          have sd:=dC h.1
          cases neg
          · exact SeqAt.in_tuple_reads r2 r1 hl (SeqAt.canLay_of_shaped sd) (room_in_shaped sd hu) ⟨H,I,by rw[im]; rfl,q⟩
          · exact SeqAt.notIn_tuple_reads r2 r1 hl (SeqAt.canLay_of_shaped sd) (room_in_shaped sd hu) ⟨H,I,by rw[im]; rfl,q⟩
        · cases e
      · cases e
  · rename_i z ev
    rw[ev] at rw0
    split at e
    · rename_i x'
      split at e
      · rename_i h
        cases e
        have ex:x=.str x':=ra.w.str
        have ey:=rw0.str
        rw[vC h] at ex
        cases neg
        · refine thn (op_in_sign pins s σ H x y v u (fun w H'=>w=.bl (decide (x'.cps.getD 0 0∈z.cps.toList))∧H'=H) I rx ry ⟨_,z,ex,ey,rfl,rfl⟩) fun r s' ⟨w,H',I',rr,ew,eH⟩=>?_
          subst ew eH
          exact ⟨_,I',rr,q⟩
        · refine thn (op_notIn_sign pins s σ H x y v u (fun w H'=>w=.bl (!decide (x'.cps.getD 0 0∈z.cps.toList))∧H'=H) I rx ry ⟨_,z,ex,ey,rfl,rfl⟩) fun r s' ⟨w,H',I',rr,ew,eH⟩=>?_
          subst ew eH
          exact ⟨_,I',rr,q⟩
      · cases e
    · cases e
  · rename_i l ev
    rw[ev] at rw0
    have rw1:Rep X.K X.mg μ H (.loc l) y:=rw0
    unfold Rep at rw1
    obtain ⟨ad,rfl,hμ⟩:=rw1
    split at e
    · rename_i t kvs es
      split at e
      · rename_i hk
        cases e
        obtain ⟨o,g,m⟩:=pX rs hμ es hk ra
        obtain rfl:u=Value.ref ad:=ry
        have ho:o.isSome=(cz t kvs a).isSome:=by
          cases el:cz t kvs a with
          | some d=>rw[el] at m; obtain ⟨v',e',_⟩:=m; rw[e']; rfl
          | none=>rw[el] at m; rw[show o=none from m]; rfl
        cases neg
        · exact d_in (by omega) I g rx fun s' I'=>⟨H,I',by rw[ho]; rfl,q⟩
        · exact d_notIn (by omega) I g rx fun s' I'=>⟨H,I',by rw[ho]; rfl,q⟩
      · cases e
    · cases e
  · cases e
theorem pY (hu:X.A.units+65<cLine):OpR X (compareOp .In) (rS X.K X.mg fIn):=by
  intro pins s σ H x y v u Q I rx ry ⟨μ,S,a,b,d,rs,ra,rb,e,q⟩
  unfold fIn at e
  obtain ⟨c,e1,e2⟩:=Option.map_eq_some_iff.mp e
  subst e2
  exact thn (tF hu (Q:=fun c' H'=>c'=c∧H'=H) I rx ry rs ra rb e1 ⟨rfl,rfl⟩ false) fun r s' ⟨H',I',er,_,eH⟩=>by
    subst er eH
    exact ⟨.bl c,_,I',rfl,q _ _ .rfl (cI _)⟩
theorem cS (hu:X.A.units+65<cLine):OpR X (compareOp .NotIn) (rS X.K X.mg cZ):=by
  intro pins s σ H x y v u Q I rx ry ⟨μ,S,a,b,d,rs,ra,rb,e,q⟩
  unfold cZ at e
  obtain ⟨c,e1,e2⟩:=Option.map_eq_some_iff.mp e
  subst e2
  exact thn (tF hu (Q:=fun c' H'=>c'=c∧H'=H) I rx ry rs ra rb e1 ⟨rfl,rfl⟩ true) fun r s' ⟨H',I',er,_,eH⟩=>by
    subst er eH
    exact ⟨.bl (!c),_,I',rfl,q _ _ .rfl (cI _)⟩
end
def fIx (S:Sto) (a k:D):Option D:=match view S a with
  | .lst xs=>match k with
    | .int i=>atI xs i
    | _=>none
  | .tup xs=>match k with
    | .int i=>atI xs i
    | _=>none
  | .ro xs=>match k with
    | .int i=>atI xs i
    | _=>none
  | .str z=>match k with
    | .int i=>if z.length≤1000000 then (atI z.cps.toList i).map fun c=>.str ⟨#[c]⟩ else none
    | _=>none
  | .loc l=>match c4 S[l]? with
    | some (t,kvs)=>if cB t k then cz t kvs k else none
    | none=>none
  | _=>none
theorem RepAll.atI {K:PySem.W.Frag} {mg:Str→Option Value} {μ:Mu} {H:Hp} {xs:List D} {vs:List V} {i:Int} {d:D} (r:RepAll K mg μ H xs vs) (h:L2.atI xs i=some d):∃v,L2.atI vs i=some v∧Rep K mg μ H d v:=by
  unfold L2.atI at *
  rw[←r.length]
  obtain ⟨j,h1,h2⟩:=Option.bind_eq_some_iff.mp h
  obtain ⟨v,e1,e2⟩:=r.get h2
  exact ⟨v,by rw[h1]; exact e1,e2⟩
section
variable {X:Cx} {W:WX} {a b:Expr} {pos:Pos} {ma mb:ME}
theorem ix_any (hu:X.A.units+1<cLine):IxR X (rS X.K X.mg fIx):=by
  intro value slice pins s σ H x y v u Q I rx ry ⟨μ,S,a,k,d,rs,ra,rb,e,q⟩ hs
  unfold fIx at e
  have rw0:=rs.view ra
  split at e
  · rename_i xs ev
    rw[ev] at rw0
    split at e
    · obtain ⟨p,vs,ep,hp,l⟩:=rw0
      obtain ⟨w,h1,h2⟩:=l.atI e
      exact ix_list value slice pins s σ H x y v u Q I rx ry ⟨p,vs,_,w,ep,rb.w.int,.of hp,h1,q H w .rfl h2⟩ hs
    · cases e
  · rename_i xs ev
    rw[ev] at rw0
    split at e
    · obtain ⟨p,vs,ep,hp,l,_⟩:=rw0.tup
      obtain ⟨w,h1,h2⟩:=l.atI e
      exact ix_tup value slice pins s σ H x y v u Q I rx ry ⟨p,vs,_,w,ep,rb.w.int,.inl hp,h1,q H w .rfl h2⟩ hs
    · cases e
  · rename_i xs ev
    rw[ev] at rw0
    split at e
    · have rw0:Rep X.K X.mg μ H (.ro xs) x:=rw0
      unfold Rep at rw0
      obtain ⟨p,vs,ep,hp,l⟩:=rw0
      obtain ⟨w,h1,h2⟩:=l.atI e
      exact ix_list value slice pins s σ H x y v u Q I rx ry ⟨p,vs,_,w,ep,rb.w.int,hp.sq,h1,q H w .rfl h2⟩ hs
    · cases e
  · rename_i z ev
    rw[ev] at rw0
    split at e
    · split at e
      · rename_i hz
        obtain ⟨c,h1,h2⟩:=Option.map_eq_some_iff.mp e
        subst h2
        exact ix_str value slice pins s σ H x y v u Q I rx ry ⟨z,_,c,rw0.str,rb.w.int,cY hz,h1,q H _ .rfl (gN _)⟩ hs
      · cases e
    · cases e
  · rename_i l ev
    rw[ev] at rw0
    have rw1:Rep X.K X.mg μ H (.loc l) x:=rw0
    unfold Rep at rw1
    obtain ⟨ad,rfl,hμ⟩:=rw1
    split at e
    · rename_i t kvs es
      split at e
      · rename_i hk
        obtain ⟨o,g,m⟩:=pX rs hμ es hk rb
        rw[e] at m
        obtain ⟨w,eo,rw'⟩:=m
        subst eo
        obtain rfl:v=Value.ref ad:=rx
        have hT:=dict_typeIs I g
        unfold subscriptTail
        refine wpAny_bind ?_
        rw[getitemInPython_of_ne hT.not_modules]
        refine wpAny_bind (wpAny_specialOf hT PySem.F.slot_dict_getitem.lookup ?_)
        have fin:wpAny (model X.prog X.w) X.A (subscripted slice false (.ref ad) u) (fun r s₃=>wpAny (model X.prog X.w) X.A (letTemporaryGo value (.ref ad) r >>= fun _=>pure r) (EP X pins σ Q) X.xe s₃) X.xe s:=by
          rw[hs]
          exact wpAny_operating (thn (d_getItem hu I g ry fun w' s3 I3 rw2=>(⟨w,H,I3,rw2,q H w .rfl rw'⟩:EP X pins σ Q w' s3)) fun r s₃ h₃=>wpAny_bind (wpAny_letTemporaryGo (wpAny_pure h₃)))
        first
          | exact wpAny_pure (wpAny_bind fin)
          | exact wpAny_bind (wpAny_pure (wpAny_bind fin))
          | exact wpAny_bind fin
      · cases e
    · cases e
  · cases e
theorem aS (hu:X.A.units+1<cLine) (ha:PE X a (tE X W ma)) (hb:PE X b (tE X W mb)) (hs:PlainIx b:=by exact fun _ _=>rfl):PE X (.Subscript a b pos) (tE X W (aK fIx ma mb)):=
  bt (pe_ix (ix_any hu) ha hb hs) fun _ _ _ h=>s0 h
end
def eF {α:Type} (xs:List α) (lo hi:Option Int):List α:=(xs.drop (HT.sIx xs.length 0 lo)).take (HT.sIx xs.length xs.length hi - HT.sIx xs.length 0 lo)
def mr (d:D) (lo hi:Option Int):Option D:=match d with
  | .lst xs=>some (.lst (eF xs lo hi))
  | .tup xs=>some (.tup (eF xs lo hi))
  | .tpn xs=>some (if HT.sIx xs.length 0 lo=0∧HT.sIx xs.length xs.length hi=xs.length then .tpn xs else .tup (eF xs lo hi))
  | .str z=>if z.length≤1000000 then some (.str (cutS z lo hi)) else none
  | _=>none
abbrev MP:=En→Sto→Res (Option Int)
def pNo:MP:=fun _ S=>.ok none S
def jJ (m:ME):MP:=fun env S=>(m env S).bind fun d S=>match d with
  | .int i=>.ok (some i) S
  | _=>.stuck
def oO (m:ME) (ml mh:MP):ME:=fun env S=>(m env S).bind fun d S=>(ml env S).bind fun lo S=>(mh env S).bind fun hi S=>ofO S (mr (view0 S d) lo hi)
section
variable {X:Cx} {W:WX} {e:Expr} {pos p2:Pos} {m:ME} {ml mh:MP} {lo hi:Option Expr}
abbrev tP (X:Cx) (W:WX) (m:MP):L2.St→Hp→(Option Int→Hp→Prop)→Prop:=tM X (fun _ _ a b=>b=a) W m
def PO' (X:Cx) (W:WX) (o:Option Expr) (m:MP):Prop:=PO X o (tP X W m)
theorem nF:PO' X W none pNo:=⟨fun pins s σ H Q I h=>po_none.run pins s σ H Q I (by
  obtain ⟨env,S,μ,rl,o⟩:=h
  exact o μ H none .refl rl.sto rfl)⟩
theorem iJ (h:PE X e (tE X W m)):PO' X W (some e) (jJ m):=⟨fun pins s σ H Q I w=>(po_some h).run pins s σ H Q I (by
  obtain ⟨env,S,μ,rl,o⟩:=w
  refine ⟨env,S,μ,rl,(Out.bind o).mono fun x H1 ⟨μ1,S1,d,st,rs,r,o1⟩=>?_⟩
  cases d with
  | int i=>unfold Rep at r; exact ⟨i,r,o1 μ1 H1 _ .refl rs rfl⟩
  | _=>exact o1.elim)⟩
theorem sl_any:SlR X (fun x lo hi H Q=>∃μ S d d',RelS X.K X.mg μ H S∧RepV X.K X.mg μ H d x∧mr d lo hi=some d'∧∀H' v,Sm H H'→Rep X.K X.mg μ H' d' v→Q v H'):=by
  intro pins s σ H x v vl vu lo hi sl Q I rx hs pl pu ⟨μ,S,d,d',rs,r,e,q⟩
  unfold mr at e
  split at e
  · cases e
    obtain ⟨a,vs,ea,ha,l⟩:=r
    refine sl_list pins s σ H x v vl vu lo hi sl Q I rx hs pl pu ⟨a,vs,ea,.of ha,fun p hp=>q _ _ (.upd hp) ?_⟩
    refine cA rs hp ?_
    unfold eF cutV
    rw[←l.length]
    exact (l.drop _).take _
  · rename_i xs
    cases e
    have r':Rep X.K X.mg μ H (.tup xs) x:=r
    obtain ⟨a,vs,ea,ha,l,na⟩:=r.vt
    subst ea
    have el:cutV vs lo hi=(vs.drop (HT.sIx xs.length 0 lo)).take (HT.sIx xs.length xs.length hi - HT.sIx xs.length 0 lo):=by unfold cutV; rw[←l.length]
    refine sl_tupA pins s σ H _ v vl vu lo hi sl Q I rx hs pl pu ⟨a,vs,rfl,.inl ha,fun hw=>q H _ .rfl ?_,fun _ p hp=>q _ _ (.upd hp) ?_⟩
    · have:eF xs lo hi=xs:=by
        unfold eF
        rw[←l.length] at hw
        rw[hw.1,hw.2]; simp
      rw[this]
      exact r'
    · refine bG rs hp ?_
      rw[el]
      unfold eF
      exact (l.drop _).take _
  · rename_i xs
    cases e
    have r':Rep X.K X.mg μ H (.tpn xs) x:=r
    obtain ⟨a,vs,ea,ha,l,na⟩:=r.vt
    subst ea
    have el:cutV vs lo hi=(vs.drop (HT.sIx xs.length 0 lo)).take (HT.sIx xs.length xs.length hi - HT.sIx xs.length 0 lo):=by unfold cutV; rw[←l.length]
    refine sl_tupA pins s σ H _ v vl vu lo hi sl Q I rx hs pl pu ⟨a,vs,rfl,.inl ha,fun hw=>q H _ .rfl ?_,fun hw p hp=>q _ _ (.upd hp) ?_⟩
    · rw[←l.length] at hw
      rw[if_pos hw]
      exact r'
    · rw[←l.length] at hw
      rw[if_neg hw]
      refine bG rs hp ?_
      rw[el]
      unfold eF
      exact (l.drop _).take _
  · split at e
    · rename_i hz
      cases e
      exact sl_str pins s σ H x v vl vu lo hi sl Q I rx hs pl pu ⟨_,RepV.str r,cY hz,q H _ .rfl (gN _)⟩
    · cases e
  · cases e
theorem jw (he:PE X e (tE X W m)) (hl:PO' X W lo ml) (hh:PO' X W hi mh):PE X (.Subscript e (.Slice lo hi none p2) pos) (tE X W (oO m ml mh)):=
  bt (pe_slice sl_any he hl hh) fun σ H Q ⟨env,S,μ,rl,o⟩=>by
    refine ⟨env,S,μ,rl,(Out.bind o).mono fun x H1 ⟨μ1,S1,d,st,rs,r,o1⟩=>?_⟩
    refine ⟨env,S1,μ1,⟨rl.env.step st,rs⟩,(Out.bind o1).mono fun lo' H2 ⟨μ2,S2,dl,st2,rs2,rl2,o2⟩=>?_⟩
    subst rl2
    refine ⟨env,S2,μ2,⟨(rl.env.step st).step st2,rs2⟩,(Out.bind o2).mono fun hi' H3 ⟨μ3,S3,dh,st3,rs3,rh3,o3⟩=>?_⟩
    subst rh3
    cases e:mr (view0 S3 d) lo' hi' with
    | none=>rw[e] at o3; exact o3.elim
    | some d'=>
      rw[e] at o3
      exact ⟨μ3,S3,_,d',rs3,rs3.view0 (Rep.step st3 _ _ (Rep.step st2 _ _ r)),e,fun H' v sm rr=>o3 μ3 H' v (.of_sm sm) (rs3.sm sm) rr⟩
end
end DL
namespace DL
open PySem PySem.Spec PyProof.Rows L2
def eC (d:D):ME:=fun _ S=>.ok d S
def eV (i:Nat):ME:=fun env S=>match env[i]? with
  | some (some d)=>.ok d S
  | _=>.stuck
section
variable {X:Cx} {W:WX} {a b c e:Expr} {pos:Pos} {m ma mb mc:ME} {ta tb tc:MT} {rest:List Expr}
theorem rO {te:TE} {d:D} (h:PE X e te) (i:∀σ H Q μ S,RelS X.K X.mg μ H S→(∀v,Rep X.K X.mg μ H d v→Q v H)→te σ H Q):PE X e (tE X W (eC d)):=
  bt h fun σ H Q ⟨env,S,μ,rl,o⟩=>i σ H Q μ S rl.sto fun v r=>o μ H v .refl rl.sto r
theorem aF {i j}:PE X (.Constant (.int i) j pos) (tE X W (eC (.int i))):=rO pe_int fun _ _ _ _ _ _ q=>q _ (bB _)
theorem bC {i j}:PE X (.Constant (.bool i) j pos) (tE X W (eC (.bool i))):=rO pe_bl fun _ _ _ _ _ _ q=>q _ (cI _)
theorem lJ {j}:PE X (.Constant .none j pos) (tE X W (eC .none)):=rO pe_non fun _ _ _ _ _ _ q=>q _ lc
theorem gO {i j}:PE X (.Constant (.str i) j pos) (tE X W (eC (.str i))):=rO pe_str fun _ _ _ _ _ _ q=>q _ (gN _)
theorem aB (i:Nat) {x:Str} (hN:X.N[i]?=some x:=by rfl) (hv:Vis X.env.scope x:=by first|exact Or.inl rfl|exact Or.inr (Or.inl rfl)|exact Or.inr (Or.inr rfl)) (hd:(x == ("__debug__":Str))=false:=by decide)
    (hcd:(x == ("__classdict__":Str))=false:=by decide):PE X (.Name x pos) (tE X W (eV i)):=
  bt (pe_var hN hv hd hcd) fun σ H Q ⟨env,S,μ,rl,o⟩=>by
    unfold eV at o
    cases e:env[i]? with
    | none=>simp only[e] at o; exact o.elim
    | some w=>
      cases w with
      | none=>simp only[e] at o; exact o.elim
      | some d=>
        simp only[e] at o
        obtain ⟨v,h1,h2⟩:=rl.env.at_ i d e
        exact ⟨v,h1,o μ H v .refl rl.sto h2⟩
theorem xJ {x:Str} {i:Int} {t} (hg:Gl X x) (hm:X.mg x=some (.int i t)) (hd:(x == ("__debug__":Str))=false:=by decide):PE X (.Name x pos) (tE X W (eC (.int i))):=
  rO (pe_glob (v:=.int i) hg hm ⟨_,rfl⟩ hd) fun _ _ _ _ _ _ q=>q _ (bB _)
theorem xK {x:Str} {i:Str} {t} (hg:Gl X x) (hm:X.mg x=some (.str i t)) (hd:(x == ("__debug__":Str))=false:=by decide):PE X (.Name x pos) (tE X W (eC (.str i))):=
  rO (pe_glob (v:=.str i) hg hm ⟨_,rfl⟩ hd) fun _ _ _ _ _ _ q=>q _ (gN _)
theorem fV {x:Str} {n:String} (hg:Gl X x) (hm:X.mg x=none) (hv:bootBuiltins x=some (.type n)) (hn:x≠"__name__":=by decide) (hd:(x == ("__debug__":Str))=false:=by decide):PE X (.Name x pos) (tE X W (eC (.ty n))):=
  rO (pe_bltn (v:=.ty n) hg hm hv rfl hn hd) fun _ _ _ _ _ _ q=>q _ (by unfold Rep; rfl)
def fc (S:Sto) (d:D):Option Bool:=match view S d with
  | .none=>some false
  | .bool b=>some b
  | .int i=>some (i != 0)
  | .str x=>if x.length≤1000000 then some ((x.length:Int) != 0) else none
  | .tup xs=>some (!xs.isEmpty)
  | .lst xs=>some (!xs.isEmpty)
  | .ro xs=>some (!xs.isEmpty)
  | .loc l=>match S[l]? with
    | some (.dct false kvs)=>some (!kvs.isEmpty)
    | _=>none
  | _=>none
theorem gz {K:PySem.W.Frag} {mg:Str→Option Value} {μ:Mu} {H:Hp} {xs:List D} {vs:List V} (r:RepAll K mg μ H xs vs):xs.isEmpty=vs.isEmpty:=by
  cases xs with
  | nil=>unfold RepAll at r; subst r; rfl
  | cons a b=>unfold RepAll at r; obtain ⟨v,q,rfl,_⟩:=r; rfl
theorem oP {K:PySem.W.Frag} {mg:Str→Option Value} {μ:Mu} {H:Hp} {S:Sto} {d:D} {x:V} {k:Bool} (rs:RelS K mg μ H S) (r:Rep K mg μ H d x) (e:fc S d=some k):TruV K x H k:=by
  unfold fc at e
  have w:=rs.view r
  split at e
  · rename_i ev
    rw[ev] at w; cases e
    have w:Rep K mg μ H .none x:=w
    unfold Rep at w; subst w; rfl
  · rename_i ev
    rw[ev] at w; cases e
    have w:Rep K mg μ H (.bool _) x:=w
    unfold Rep at w; subst w; rfl
  · rename_i ev
    rw[ev] at w; cases e
    rw[w.int]; rfl
  · rename_i ev
    rw[ev] at w
    split at e
    · rename_i hz
      cases e
      rw[w.str]; exact ⟨cY hz,rfl⟩
    · cases e
  · rename_i ev
    rw[ev] at w; cases e
    obtain ⟨a,vs,rfl,h,l,_⟩:=w.tup
    exact .inr (.inl ⟨vs,.inl h,by rw[gz l]⟩)
  · rename_i ev
    rw[ev] at w; cases e
    obtain ⟨a,vs,rfl,h,l⟩:=w
    exact .inl ⟨vs,.of h,by rw[gz l]⟩
  · rename_i ev
    rw[ev] at w; cases e
    have w:Rep K mg μ H (.ro _) x:=w
    unfold Rep at w
    obtain ⟨a,vs,rfl,h,l⟩:=w
    exact .inl ⟨vs,h.sq,by rw[gz l]⟩
  · rename_i l ev
    rw[ev] at w
    have w:Rep K mg μ H (.loc l) x:=w
    unfold Rep at w
    obtain ⟨a,rfl,hμ⟩:=w
    split at e
    · rename_i kvs es
      cases e
      obtain ⟨a',h1,vs,ks,⟨h2,hk⟩,l⟩:=rs.at_ _ _ es
      rw[hμ] at h1; cases h1
      refine .inr (.inr ⟨_,h2,?_⟩)
      cases kvs with
      | nil=>
        cases ks with
        | nil=>rfl
        | cons a b=>cases hk
      | cons p q=>
        cases ks with
        | nil=>cases hk
        | cons a b=>
          have l:RepAll K mg μ H (p.2::q.map (·.2)) vs:=l
          unfold RepAll at l
          obtain ⟨v,r,rfl,_⟩:=l
          rfl
    · cases e
  · cases e
def cQ (m:ME):MT:=fun env S=>(m env S).bind fun d S=>ofO S (fc S d)
theorem t_tru {σ:L2.St} {H:Hp} {Q:Bool→Hp→Prop} (h:tT X W (cQ m) σ H Q):tE X W m σ H fun x H'=>∃k,TruV X.K x H' k∧Q k H':=by
  obtain ⟨env,S,μ,rl,o⟩:=h
  refine ⟨env,S,μ,rl,(Out.bind o).mono fun x H1 ⟨μ1,S1,d,st,rs,r,o1⟩=>?_⟩
  cases e:fc S1 d with
  | none=>rw[e] at o1; exact o1.elim
  | some k=>rw[e] at o1; exact ⟨k,oP rs r e,o1 μ1 H1 k .refl rs rfl⟩
theorem a9 (h:PE X a (tE X W m)) (he:∀whole,isTrue a X.env whole=(do let v ←whole; standAt a.pos; holding [v] (truthy v)):=by exact fun _=>rfl):PT X a (tT X W (cQ m)):=
  sy (pt_truth h he) fun σ H Q w=>t_tru w
def nH (ma mb:MT):MT:=fun env S=>(ma env S).bind fun c S=>if c=true then mb env S else .ok false S
def dJ (ma mb:MT):MT:=fun env S=>(ma env S).bind fun c S=>if c=true then .ok true S else mb env S
def bu (ma:MT):MT:=fun env S=>(ma env S).bind fun c S=>.ok (!c) S
theorem tH (h:PT X a (tT X W ta)):PW X (.BoolOp .And [a] pos) (tT X W ta):=pw_and1 h
theorem cD (h:PT X a (tT X W ta)):PW X (.BoolOp .Or [a] pos) (tT X W ta):=pw_or1 h
theorem rQ (ha:PT X a (tT X W ta)) (hb:PW X (.BoolOp .And (b::rest) pos) (tT X W tb)):PW X (.BoolOp .And (a::b::rest) pos) (tT X W (nH ta tb)):=
  pw_to (pw_and ha hb) fun σ H Q ⟨env,S,μ,rl,o⟩=>⟨env,S,μ,rl,(Out.bind o).mono fun x H1 ⟨μ1,S1,d,st,rs,r,o1⟩=>by
    subst r
    cases x with
    | true=>exact ⟨env,S1,μ1,⟨rl.env.step st,rs⟩,o1⟩
    | false=>exact o1 μ1 H1 _ .refl rs rfl⟩
theorem cC (ha:PT X a (tT X W ta)) (hb:PW X (.BoolOp .Or (b::rest) pos) (tT X W tb)):PW X (.BoolOp .Or (a::b::rest) pos) (tT X W (dJ ta tb)):=
  pw_to (pw_or ha hb) fun σ H Q ⟨env,S,μ,rl,o⟩=>⟨env,S,μ,rl,(Out.bind o).mono fun x H1 ⟨μ1,S1,d,st,rs,r,o1⟩=>by
    subst r
    cases x with
    | false=>exact ⟨env,S1,μ1,⟨rl.env.step st,rs⟩,o1⟩
    | true=>exact o1 μ1 H1 _ .refl rs rfl⟩
theorem br {op es} (h:PW X (.BoolOp op es pos) (tT X W ta)):PT X (.BoolOp op es pos) (tT X W ta):=h.pt
theorem bU (ha:PT X a (tT X W ta)):PT X (.UnaryOp .Not a pos) (tT X W (bu ta)):=
  sy (pt_not ha) fun σ H Q ⟨env,S,μ,rl,o⟩=>⟨env,S,μ,rl,(Out.bind o).mono fun x H1 ⟨μ1,S1,d,st,rs,r,o1⟩=>by
    subst r
    exact o1 μ1 H1 _ .refl rs rfl⟩
def jx (ma mb:ME):ME:=fun env S=>(ma env S).bind fun d S=>(ofO S (fc S d)).bind fun c S=>if c=true then mb env S else .ok d S
def eOr (ma mb:ME):ME:=fun env S=>(ma env S).bind fun d S=>(ofO S (fc S d)).bind fun c S=>if c=true then .ok d S else mb env S
def eNot (ma:ME):ME:=fun env S=>(ma env S).bind fun d S=>(ofO S (fc S d)).bind fun c S=>.ok (.bool (!c)) S
def eIf (tc:MT) (ma mb:ME):ME:=fun env S=>(tc env S).bind fun c S=>if c=true then ma env S else mb env S
theorem io {op} (h:PE X a (tE X W m)):PE X (.BoolOp op [a] pos) (tE X W m):=pe_one h
theorem fe (ha:PE X a (tE X W ma)) (hb:PE X (.BoolOp .And (b::rest) pos) (tE X W mb)):PE X (.BoolOp .And (a::b::rest) pos) (tE X W (jx ma mb)):=
  bt (pe_andT ha hb) fun σ H Q ⟨env,S,μ,rl,o⟩=>⟨env,S,μ,rl,(Out.bind o).mono fun x H1 ⟨μ1,S1,d,st,rs,r,o1⟩=>by
    cases e:fc S1 d with
    | none=>rw[e] at o1; exact o1.elim
    | some k=>
      rw[e] at o1
      refine ⟨k,oP rs r e,?_⟩
      cases k with
      | true=>exact ⟨env,S1,μ1,⟨rl.env.step st,rs⟩,o1⟩
      | false=>exact o1 μ1 H1 _ .refl rs r⟩
theorem sE_not (ha:PE X a (tE X W ma)):PE X (.UnaryOp .Not a pos) (tE X W (eNot ma)):=
  bt (pe_notT ha) fun σ H Q ⟨env,S,μ,rl,o⟩=>⟨env,S,μ,rl,(Out.bind o).mono fun x H1 ⟨μ1,S1,d,st,rs,r,o1⟩=>by
    cases e:fc S1 d with
    | none=>rw[e] at o1; exact o1.elim
    | some k=>
      rw[e] at o1
      exact ⟨k,oP rs r e,o1 μ1 H1 _ .refl rs (cI _)⟩⟩
theorem vD (hc:PT X c (tT X W tc)) (ha:PE X a (tE X W ma)) (hb:PE X b (tE X W mb)):PE X (.IfExp c a b pos) (tE X W (eIf tc ma mb)):=
  bt (pe_ifExp hc ha hb) fun σ H Q ⟨env,S,μ,rl,o⟩=>⟨env,S,μ,rl,(Out.bind o).mono fun x H1 ⟨μ1,S1,d,st,rs,r,o1⟩=>by
    subst r
    cases x with
    | true=>exact ⟨env,S1,μ1,⟨rl.env.step st,rs⟩,o1⟩
    | false=>exact ⟨env,S1,μ1,⟨rl.env.step st,rs⟩,o1⟩⟩
def eNeg (ma:ME):ME:=fun env S=>(ma env S).bind fun d S=>match d with
  | .int i=>.ok (.int (-i)) S
  | _=>.stuck
theorem rR (ha:PE X a (tE X W ma)):PE X (.UnaryOp .USub a pos) (tE X W (eNeg ma)):=
  bt (pe_un un_neg ha) fun σ H Q ⟨env,S,μ,rl,o⟩=>⟨env,S,μ,rl,(Out.bind o).mono fun x H1 ⟨μ1,S1,d,st,rs,r,o1⟩=>by
    cases d with
    | int i=>unfold Rep at r; exact ⟨i,r,o1 μ1 H1 _ .refl rs (bB _)⟩
    | _=>exact o1.elim⟩
def ip (f g:Sto→D→D→Option D) (ma mb mc:ME):ME:=fun env S=>(ma env S).bind fun a S=>(mb env S).bind fun b S=>match f S a b with
  | some (.bool true)=>(mc env S).bind fun c S=>ofO S (g S b c)
  | some (.bool false)=>.ok (.bool false) S
  | _=>.stuck
theorem tJ {f g:Sto→D→D→Option D} {σ:L2.St} {H:Hp} {Q:VK} (h:tE X W (ip f g ma mb mc) σ H Q):tChain (rS X.K X.mg f) (rS X.K X.mg g) (tE X W ma) (tE X W mb) (tE X W mc) σ H Q:=by
  obtain ⟨env,S,μ,rl,o⟩:=h
  refine ⟨env,S,μ,rl,(Out.bind o).mono fun x H1 ⟨μ1,S1,da,st,rs,ra,o1⟩=>?_⟩
  refine ⟨env,S1,μ1,⟨rl.env.step st,rs⟩,(Out.bind o1).mono fun y H2 ⟨μ2,S2,db,st2,rs2,rb,o2⟩=>?_⟩
  cases e:f S2 da db with
  | none=>simp only[e] at o2; exact o2.elim
  | some d=>
    simp only[e] at o2
    refine ⟨μ2,S2,_,_,d,rs2,Rep.step st2 _ _ ra,rb,e,fun H' v sm r=>?_⟩
    cases d with
    | bool k=>
      unfold Rep at r
      refine ⟨k,r,?_⟩
      have st3:Step μ2 H2 μ2 H':=.of_sm sm
      cases k with
      | false=>exact o2 μ2 H' _ st3 (rs2.sm sm) (cI _)
      | true=>
        refine ⟨env,S2,μ2,⟨((rl.env.step st).step st2).step st3,rs2.sm sm⟩,(Out.bind (Out.of_step st3 o2)).mono fun z H4 ⟨μ4,S4,dc,st4,rs4,rc,o4⟩=>?_⟩
        cases e2:g S4 db dc with
        | none=>rw[e2] at o4; exact o4.elim
        | some d2=>
          rw[e2] at o4
          exact ⟨μ4,S4,_,_,d2,rs4,Rep.step st4 _ _ (Rep.step st3 _ _ rb),rc,e2,fun H5 v5 sm5 r5=>o4 μ4 H5 v5 (.of_sm sm5) (rs4.sm sm5) r5⟩
    | _=>exact o2.elim
theorem vE {op op':CmpOp} {f g:Sto→D→D→Option D} (ho:OpR X (compareOp op) (rS X.K X.mg f)) (ho':OpR X (compareOp op') (rS X.K X.mg g)) (ha:PE X a (tE X W ma)) (hb:PE X b (tE X W mb)) (hc:PE X c (tE X W mc))
    (hm:lastMarks [op,op'] [b,c]=false:=by with_unfolding_all rfl):PE X (.Compare a [op,op'] [b,c] pos) (tE X W (ip f g ma mb mc)):=bt (pe_chain ho ho' ha hb hc hm) fun _ _ _ h=>tJ h
theorem vF {op op':CmpOp} {f g:Sto→D→D→Option D} (ho:OpR X (compareOp op) (rS X.K X.mg f)) (ho':OpR X (compareOp op') (rS X.K X.mg g)) (ha:PE X a (tE X W ma)) (hb:PE X b (tE X W mb)) (hc:PE X c (tE X W mc))
    (hm:lastMarks [op,op'] [b,c]=false:=by with_unfolding_all rfl):PT X (.Compare a [op,op'] [b,c] pos) (tT X W (tOf (ip f g ma mb mc))):=sy (pt_chain ho ho' ha hb hc hm) fun σ H Q h=>by
    obtain ⟨env,S,μ,rl,o⟩:=t_of h
    exact tJ ⟨env,S,μ,rl,o⟩
def aJ:MA:=fun _ S=>.ok [] S
def aC (m:ME) (r:MA):MA:=fun env S=>(m env S).bind fun d S=>(r env S).bind fun ds S=>.ok (d::ds) S
theorem aD:PA X [] (tAs X W aJ):=pa_to pa_nil fun σ H Q ⟨env,S,μ,rl,o⟩=>o μ H [] .refl rl.sto .nil
theorem aA {es:List Expr} {r:MA} (he:PE X e (tE X W m)) (hr:PA X es (tAs X W r)) (hs:starEach (e::es) X.env=(false,eval e X.env)::starEach es X.env:=by rfl):PA X (e::es) (tAs X W (aC m r)):=
  pa_to (pa_cons he hr hs) fun σ H Q ⟨env,S,μ,rl,o⟩=>⟨env,S,μ,rl,(Out.bind o).mono fun x H1 ⟨μ1,S1,d,st,rs,rd,o1⟩=>
    ⟨env,S1,μ1,⟨rl.env.step st,rs⟩,(Out.bind o1).mono fun xs H2 ⟨μ2,S2,ds,st2,rs2,rds,o2⟩=>o2 μ2 H2 _ .refl rs2 (.cons (Rep.step st2 _ _ rd) rds)⟩⟩
def cx (r:MA):ME:=fun env S=>(r env S).bind fun ds S=>if ds.length≤1000000 then .ok (.tup ds) S else .stuck
def jK (r:MA):ME:=fun env S=>(r env S).bind fun ds S=>if ds.length≤1000000 then .ok (.lst ds) S else .stuck
def iU (r:MA):ME:=fun env S=>(r env S).bind fun ds S=>if ds.length≤1000000 then .ok (.loc S.length) (S++[.lst ds]) else .stuck
variable {es:List Expr} {r:MA}
theorem bE {x1} (h:PA X es (tAs X W r)):PE X (.Tuple es x1 pos) (tE X W (cx r)):=bt (pe_tup h) fun σ H Q ⟨env,S,μ,rl,o⟩=>⟨env,S,μ,rl,(Out.bind o).mono fun xs H1 ⟨μ1,S1,ds,st,rs,rd,o1⟩=>by
  split at o1
  · rename_i hz
    exact ⟨by rw[←rd.length]; exact cY hz,fun p hp=>o1 μ1 _ _ (.of_sm (.upd hp)) (rs.sm (.upd hp)) (bG rs hp rd)⟩
  · exact o1.elim⟩
theorem fA (h:PA X es (tAs X W r)):PE X (.List es pos) (tE X W (jK r)):=bt (pe_lst h) fun σ H Q ⟨env,S,μ,rl,o⟩=>⟨env,S,μ,rl,(Out.bind o).mono fun xs H1 ⟨μ1,S1,ds,st,rs,rd,o1⟩=>by
  split at o1
  · rename_i hz
    exact ⟨by rw[←rd.length]; exact cY hz,fun p hp=>o1 μ1 _ _ (.of_sm (.upd hp)) (rs.sm (.upd hp)) (cA rs hp rd)⟩
  · exact o1.elim⟩
end
theorem lK {K:PySem.W.Frag} {mg:Str→Option Value} {μ:Mu} {H:Hp} {S:Sto} {p:Addr} {ho:HO} {o:O} (rs:RelS K mg μ H S) (hp:H p=none) (r:RepO K mg (μ.push p) (upd H p ho) o p) :
    Step μ H (μ.push p) (upd H p ho)∧RelS K mg (μ.push p) (upd H p ho) (S++[o])∧Rep K mg (μ.push p) (upd H p ho) (.loc S.length) (.ref p):=by
  refine ⟨.new_loc hp,rs.push hp r,?_⟩
  unfold Rep
  exact ⟨p,rfl,by rw[rs.len]; simp[Mu.push]⟩
theorem tL {K:PySem.W.Frag} {mg:Str→Option Value} {μ:Mu} {H:Hp} {S:Sto} {p:Addr} {ds:List D} {vs:List V} (rs:RelS K mg μ H S) (hp:H p=none) (r:RepAll K mg μ H ds vs) :
    Step μ H (μ.push p) (upd H p (.lst vs))∧RelS K mg (μ.push p) (upd H p (.lst vs)) (S++[.lst ds])∧Rep K mg (μ.push p) (upd H p (.lst vs)) (.loc S.length) (.ref p):=
  lK rs hp ⟨vs,upd_same,RepAll.step (.new_loc hp) _ _ r⟩
section
variable {X:Cx} {W:WX} {pos:Pos} {es:List Expr} {r:MA}
theorem gP (h:PA X es (tAs X W r)):PE X (.List es pos) (tE X W (iU r)):=bt (pe_lst h) fun σ H Q ⟨env,S,μ,rl,o⟩=>⟨env,S,μ,rl,(Out.bind o).mono fun xs H1 ⟨μ1,S1,ds,st,rs,rd,o1⟩=>by
  split at o1
  · rename_i hz
    refine ⟨by rw[←rd.length]; exact cY hz,fun p hp=>?_⟩
    obtain ⟨a,b,c⟩:=tL rs hp rd
    exact o1 _ _ _ a b c
  · exact o1.elim⟩
/-- {} -/
def oQ (t:Bool):ME:=fun _ S=>.ok (.loc S.length) (S++[.dct t []])
theorem iK:PE X (.Dict [] [] pos) (tE X W (oQ true)):=bt pe_dnewT fun σ H Q ⟨env,S,μ,rl,o⟩ p hp=>by
  obtain ⟨a,b,c⟩:=lK (o:=.dct true []) (ho:=.dT []) rl.sto hp ⟨[],[],⟨upd_same,rfl⟩,.nil⟩
  exact o _ _ _ a b c
end
end DL
namespace DL
open PySem PySem.Spec PyProof.Rows L2
inductive RS where
  | next (env:En) (S:Sto)|brk (env:En) (S:Sto)|cont (env:En) (S:Sto)|ret (d:D) (S:Sto)|exc (e:XV) (env:En) (S:Sto)|stuck
abbrev MS:=En→Sto→RS
abbrev MG:=D→En→Sto→Option (En × Sto)
def Res.rs {α:Type} (env:En):Res α→(α→Sto→RS)→RS
  | .ok a S,k=>k a S
  | .exc e S,_=>.exc e env S
  | .stuck,_=>.stuck
def RS.andThen:RS→(En→Sto→RS)→RS
  | .next env S,k=>k env S
  | .brk env S,_=>.brk env S
  | .cont env S,_=>.cont env S
  | .ret d S,_=>.ret d S
  | .exc e env S,_=>.exc e env S
  | .stuck,_=>.stuck
section
variable (K:PySem.W.Frag) (mg:Str→Option Value)
def OutS (W:WX) (μ:Mu) (H:Hp) (D:Ends):RS→Prop
  | .next env S=>∀μ' H' σ',Step μ H μ' H'→RelE K mg μ' H' env σ'→RelS K mg μ' H' S→D.nx σ' H'
  | .brk env S=>∀μ' H' σ',Step μ H μ' H'→RelE K mg μ' H' env σ'→RelS K mg μ' H' S→D.bk σ' H'
  | .cont env S=>∀μ' H' σ',Step μ H μ' H'→RelE K mg μ' H' env σ'→RelS K mg μ' H' S→D.ct σ' H'
  | .ret d S=>∀μ' H' v,Step μ H μ' H'→RelS K mg μ' H' S→Rep K mg μ' H' d v→D.rt v H'
  | .exc e env S=>∀μ' H' σ' cls dd,Step μ H μ' H'→RelE K mg μ' H' env σ'→RelS K mg μ' H' S→RepX K mg μ' H' e cls dd→W cls dd σ' H'
  | .stuck=>False
end
section
variable {K:PySem.W.Frag} {mg:Str→Option Value} {α β:Type} {W:WX} {σ:L2.St} {μ μ1:Mu} {H H1:Hp} {R:Mu→Hp→α→β→Prop} {D D':Ends} {r:RS} {env:En}
theorem OutS.of_step (st:Step μ H μ1 H1) (o:OutS K mg W μ H D r):OutS K mg W μ1 H1 D r:=by
  cases r with
  | next e S=>exact fun μ' H' σ' s=>o μ' H' σ' (st.trans s)
  | brk e S=>exact fun μ' H' σ' s=>o μ' H' σ' (st.trans s)
  | cont e S=>exact fun μ' H' σ' s=>o μ' H' σ' (st.trans s)
  | ret e S=>exact fun μ' H' σ' s=>o μ' H' σ' (st.trans s)
  | exc e v S=>exact fun μ' H' σ' c d s=>o μ' H' σ' c d (st.trans s)
  | stuck=>exact o
theorem OutS.mono (o:OutS K mg W μ H D r) (h1:∀σ H,D.nx σ H→D'.nx σ H) (h2:∀σ H,D.bk σ H→D'.bk σ H) (h3:∀σ H,D.ct σ H→D'.ct σ H) (h4:∀v H,D.rt v H→D'.rt v H):OutS K mg W μ H D' r:=by
  cases r with
  | next e S=>exact fun μ' H' σ' s t u=>h1 _ _ (o μ' H' σ' s t u)
  | brk e S=>exact fun μ' H' σ' s t u=>h2 _ _ (o μ' H' σ' s t u)
  | cont e S=>exact fun μ' H' σ' s t u=>h3 _ _ (o μ' H' σ' s t u)
  | ret e S=>exact fun μ' H' σ' s t u=>h4 _ _ (o μ' H' σ' s t u)
  | exc e v S=>exact o
  | stuck=>exact o
theorem OutS.andThen {k:En→Sto→RS} (o:OutS K mg W μ H D (r.andThen k)) :
    OutS K mg W μ H { D with nx:=fun σ1 H1=>∃μ1 env1 S1,Step μ H μ1 H1∧RelE K mg μ1 H1 env1 σ1∧RelS K mg μ1 H1 S1∧OutS K mg W μ1 H1 D (k env1 S1) } r:=by
  cases r with
  | next e S=>exact fun μ' H' σ' s t u=>⟨μ',e,S,s,t,u,OutS.of_step s o⟩
  | brk e S=>exact o
  | cont e S=>exact o
  | ret e S=>exact o
  | exc e v S=>exact o
  | stuck=>exact o
theorem OutS.rs {x:Res α} {k:α→Sto→RS} (re:RelE K mg μ H env σ) (o:OutS K mg W μ H D (x.rs env k)) :
    Out K mg W σ μ H R (fun b H1=>∃μ1 S1 a,Step μ H μ1 H1∧RelS K mg μ1 H1 S1∧R μ1 H1 a b∧OutS K mg W μ1 H1 D (k a S1)) x:=by
  cases x with
  | ok a S=>exact fun μ' H' b s t u=>⟨μ',S,a,s,t,u,OutS.of_step s o⟩
  | exc e S=>exact fun μ' H' c d s t u=>o μ' H' σ c d s (re.step s) t u
  | stuck=>exact o
end
def tS (X:Cx) (W:WX) (m:MS):TS:=fun D σ H=>∃env S μ,Rl X.K X.mg μ H env σ S∧OutS X.K X.mg W μ H D (m env S)
def OutO (K:PySem.W.Frag) (mg:Str→Option Value) (μ:Mu) (H:Hp) (Q:L2.St→Hp→Prop):Option (En × Sto)→Prop
  | some (e,S)=>∀μ' H' σ',Step μ H μ' H'→RelE K mg μ' H' e σ'→RelS K mg μ' H' S→Q σ' H'
  | none=>False
theorem OutO.of_step {K:PySem.W.Frag} {mg:Str→Option Value} {μ μ1:Mu} {H H1:Hp} {Q:L2.St→Hp→Prop} {r:Option (En × Sto)} (st:Step μ H μ1 H1) (o:OutO K mg μ H Q r):OutO K mg μ1 H1 Q r:=by
  cases r with
  | none=>exact o
  | some p=>exact fun μ' H' σ' s=>o μ' H' σ' (st.trans s)
def tG (X:Cx) (g:MG):TG:=fun v σ H Q=>∃env S μ d,Rl X.K X.mg μ H env σ S∧Rep X.K X.mg μ H d v∧OutO X.K X.mg μ H Q (g d env S)
abbrev MGs:=List D→En→Sto→Option (En × Sto)
def tGs (X:Cx) (g:MGs):TGs:=fun vs σ H Q=>∃env S μ ds,Rl X.K X.mg μ H env σ S∧RepAll X.K X.mg μ H ds vs∧OutO X.K X.mg μ H Q (g ds env S)
theorem fB {X:Cx} {s:Stmt} {t t':TS} (h:PS X s t) (i:∀D σ H,t' D σ H→t D σ H):PS X s t':=⟨fun pins s σ H D I w=>h.run pins s σ H D I (i D σ H w)⟩
theorem rT {X:Cx} {s:List Stmt} {t t':TS} (h:PSs X s t) (i:∀D σ H,t' D σ H→t D σ H):PSs X s t':=⟨fun pins s σ H D I w=>h.run pins s σ H D I (i D σ H w)⟩
theorem pZ {X:Cx} {e:Expr} {t t':TG} (h:PG X e t) (i:∀v σ H Q,t' v σ H Q→t v σ H Q):PG X e t':=⟨fun pins s σ H v u Q I r w=>h.run pins s σ H v u Q I r (i v σ H Q w)⟩
theorem oR {X:Cx} {e:List Expr} {t t':TGs} (h:PGs X e t) (i:∀v σ H Q,t' v σ H Q→t v σ H Q):PGs X e t':=⟨fun pins s σ H v u Q I r w=>h.run pins s σ H v u Q I r (i v σ H Q w)⟩
def b4:MS:=fun env S=>.next env S
def aV (a b:MS):MS:=fun env S=>(a env S).andThen b
section
variable {X:Cx} {W:WX} {st:Stmt} {rest body:List Stmt} {a b:MS} {e c:Expr} {pos:Pos} {m:ME} {tc:MT}
theorem aa:PSs X [] (tS X W b4):=rT pss_nil fun D σ H ⟨env,S,μ,rl,o⟩=>o μ H σ .refl rl.env rl.sto
theorem aI (h1:PS X st (tS X W a)) (h2:PSs X rest (tS X W b)):PSs X (st::rest) (tS X W (aV a b)):=
  rT (pss_cons h1 h2) fun D σ H ⟨env,S,μ,rl,o⟩=>⟨env,S,μ,rl,(OutS.andThen o).mono (fun σ1 H1 ⟨μ1,env1,S1,st,re,rs,o1⟩=>⟨env1,S1,μ1,⟨re,rs⟩,o1⟩) (fun _ _ h=>h) (fun _ _ h=>h) (fun _ _ h=>h)⟩
theorem aL (h1:PS X st (tS X W a)):PSs X [st] (tS X W a):=rT (pss_one h1) fun _ _ _ h=>h
def dL (m:ME):MS:=fun env S=>(m env S).rs env fun _ S=>.next env S
theorem bx (he:PE X e (tE X W m)) (hs:swapsWith e none pos.line X.env=pure false:=by rfl):PS X (.Expr e pos) (tS X W (dL m)):=
  fB (ps_expr he hs) fun D σ H ⟨env,S,μ,rl,o⟩=>⟨env,S,μ,rl,(OutS.rs rl.env o).mono fun x H1 ⟨μ1,S1,d,st,rs,r,o1⟩=>o1 μ1 H1 σ .refl (rl.env.step st) rs⟩
def bF (m:ME):MS:=fun env S=>(m env S).rs env fun d S=>.ret d S
theorem aU (he:PE X e (tE X W m)):PS X (.Return (some e) pos) (tS X W (bF m)):=
  fB (ps_ret he) fun D σ H ⟨env,S,μ,rl,o⟩=>⟨env,S,μ,rl,(OutS.rs rl.env o).mono fun x H1 ⟨μ1,S1,d,st,rs,r,o1⟩=>o1 μ1 H1 x .refl rs r⟩
def sRetN:MS:=fun _ S=>.ret .none S
def vG:MS:=fun env S=>.brk env S
def sCont:MS:=fun env S=>.cont env S
/-- never come to -/
def iq:MS:=fun _ _=>.stuck
def vH:ME:=fun _ _=>.stuck
def sIf (tc:MT) (a b:MS):MS:=fun env S=>(tc env S).rs env fun c S=>if c=true then a env S else b env S
theorem bH {ba bb:List Stmt} (hc:PT X c (tT X W tc)) (ha:PSs X ba (tS X W a)) (hb:PSs X bb (tS X W b)):PS X (.If c ba bb pos) (tS X W (sIf tc a b)):=
  fB (ps_if hc ha hb) fun D σ H ⟨env,S,μ,rl,o⟩=>⟨env,S,μ,rl,(OutS.rs rl.env o).mono fun x H1 ⟨μ1,S1,d,st,rs,r,o1⟩=>by
    subst r
    cases x with
    | true=>exact ⟨env,S1,μ1,⟨rl.env.step st,rs⟩,o1⟩
    | false=>exact ⟨env,S1,μ1,⟨rl.env.step st,rs⟩,o1⟩⟩
def gV (i:Nat):MG:=fun d env S=>some (env.set i (some d),S)
theorem aZ {i:Nat} {x:Str} (hN:X.N.Nodup) (hi:X.N[i]?=some x) (hx:Loc X.env.scope x) (hf:X.fn x=true∨X.env.scope.names.lookup x=some .local:=by first|exact .inl rfl|exact .inr rfl|assumption):PG X (.Name x pos) (tG X (gV i)):=
  pZ (pg_name hN hi hx hf) fun v σ H Q ⟨env,S,μ,d,rl,r,o⟩=>o μ H _ .refl (rl.env.set r) rl.sto
def eW:MGs:=fun ds env S=>match ds with
  | []=>some (env,S)
  | _=>none
def au (g:MG) (gs:MGs):MGs:=fun ds env S=>match ds with
  | d::ds=>(g d env S).bind fun p=>gs ds p.1 p.2
  | []=>none
theorem eg:PGs X [] (tGs X eW):=oR pgs_nil fun vs σ H Q ⟨env,S,μ,ds,rl,r,o⟩=>by
  cases ds with
  | nil=>unfold RepAll at r; exact ⟨r,o μ H σ .refl rl.env rl.sto⟩
  | cons a b=>exact o.elim
theorem aq {es:List Expr} {g:MG} {gs:MGs} (h1:PG X e (tG X g)) (h2:PGs X es (tGs X gs))
    (hs:(assignEach (e::es) X.env).map (·.2)=assign e X.env::(assignEach es X.env).map (·.2):=by rfl):PGs X (e::es) (tGs X (au g gs)):=
  oR (pgs_cons h1 h2 hs) fun vs σ H Q ⟨env,S,μ,ds,rl,r,o⟩=>by
    cases ds with
    | nil=>exact o.elim
    | cons d ds=>
      unfold RepAll at r
      obtain ⟨v,q,rfl,r1,r2⟩:=r
      refine ⟨v,q,rfl,env,S,μ,d,rl,r1,?_⟩
      have o:OutO X.K X.mg μ H Q ((g d env S).bind fun p=>gs ds p.1 p.2):=o
      cases hq:g d env S with
      | none=>rw[hq] at o; exact o.elim
      | some p=>
        rw[hq] at o
        exact fun μ' H' σ' s t u=>⟨p.1,p.2,μ',ds,⟨t,u⟩,RepAll.step s _ _ r2,OutO.of_step s o⟩
def dg (n:Nat) (gs:MGs):MG:=fun d env S=>match vt d with
  | .tup ds=>if ds.length=n then gs ds env S else none
  | _=>none
theorem gQ {es:List Expr} {k:Nat} {n:Nat} {gs:MGs} (hc:X.calm=true) (h:PGs X es (tGs X gs))
    (hn:(assignEach es X.env).length=n:=by rfl) (hst:(assignEach es X.env).findIdx? (·.1)=none:=by rfl):PG X (.Tuple es k pos) (tG X (dg n gs)):=
  pZ (pg_tup hc h hn hst) fun v σ H Q ⟨env,S,μ,d,rl,r,o⟩=>by
    unfold dg at o
    split at o
    · rename_i ds ev
      by_cases hl:ds.length=n
      · simp only[hl,if_true] at o
        have w:=r.wv.vt
        rw[ev] at w
        obtain ⟨a,vs,rfl,h1,h2,_⟩:=w
        exact ⟨a,vs,rfl,.inl h1,by rw[←h2.length]; exact hl,env,S,μ,ds,rl,h2,o⟩
      · simp only[hl,if_false] at o; exact o.elim
    · exact o.elim
def ofG:Option (En × Sto)→RS
  | some p=>.next p.1 p.2
  | none=>.stuck
theorem xL {K:PySem.W.Frag} {mg:Str→Option Value} {μ:Mu} {H:Hp} {D:Ends} {r:Option (En × Sto)} (o:OutS K mg W μ H D (ofG r)):OutO K mg μ H D.nx r:=by
  cases r with
  | none=>exact o
  | some p=>exact o
def fg (m:ME) (g:MG):MS:=fun env S=>(m env S).rs env fun d S=>ofG (g d env S)
theorem cR {tg:Expr} {g:MG} (he:PE X e (tE X W m)) (hg:PG X tg (tG X g)) (hs:swapsWithSole [tg] e pos.line X.env=pure false:=by rfl) (hw:swappedStores [tg] e X.env=pure none:=by rfl)
    (h1:(assignEach [tg] X.env).map (·.2)=[assign tg X.env]:=by rfl):PS X (.Assign [tg] e pos) (tS X W (fg m g)):=
  fB (ps_asg he hg hs hw h1) fun D σ H ⟨env,S,μ,rl,o⟩=>⟨env,S,μ,rl,(OutS.rs rl.env o).mono fun x H1 ⟨μ1,S1,d,st,rs,r,o1⟩=>⟨env,S1,μ1,d,⟨rl.env.step st,rs⟩,r,xL o1⟩⟩
/-- a,b=x,y,both plain local names -/
def rU (i j:Nat) (r:MA):MS:=fun env S=>(r env S).rs env fun ds S=>match ds with
  | [a,b]=>.next ((env.set i (some a)).set j (some b)) S
  | _=>.stuck
theorem oS {i j:Nat} {x y:Str} {e1 e2:Expr} {r:MA} {px py pt:Pos} {kt k2 pt2} (hc:X.calm=true) (hN:X.N.Nodup) (hi:X.N[i]?=some x) (hj:X.N[j]?=some y) (hij:i≠j)
    (hx:X.env.scope.names.lookup x=some .local) (hy:X.env.scope.names.lookup y=some .local) (ha:PA X [e1,e2] (tAs X W r))
    (hw:swappedStores [.Tuple [.Name x px,.Name y py] kt pt] (.Tuple [e1,e2] k2 pt2) X.env=pure (some [x,y]):=by rfl)
    (hs:swapsWithSole [.Tuple [.Name x px,.Name y py] kt pt] (.Tuple [e1,e2] k2 pt2) pos.line X.env=pure false:=by rfl) :
    PS X (.Assign [.Tuple [.Name x px,.Name y py] kt pt] (.Tuple [e1,e2] k2 pt2) pos) (tS X W (rU i j r)):=
  fB (ps_par hc hN hi hj hij hx hy ha hw hs) fun D σ H ⟨env,S,μ,rl,o⟩=>⟨env,S,μ,rl,(OutS.rs rl.env o).mono fun vs H1 ⟨μ1,S1,ds,st,rs,r,o1⟩=>by
    match ds,o1 with
    | [a,b],o1=>
      unfold RepAll at r
      obtain ⟨v,q,rfl,r1,r2⟩:=r
      unfold RepAll at r2
      obtain ⟨w,q,rfl,r2,r3⟩:=r2
      unfold RepAll at r3
      subst r3
      exact ⟨v,w,rfl,o1 μ1 H1 _ .refl (((rl.env.step st).set r1).set r2) rs⟩⟩
def bw (i:Nat) (m:ME):MS:=fun env S=>(m env S).rs env fun d S=>.next (env.set i (some d)) S
theorem bA {i:Nat} {x:Str} {pos':Pos} (hN:X.N.Nodup) (hi:X.N[i]?=some x) (hx:Loc X.env.scope x) (he:PE X e (tE X W m)) (hs:swapsWith e (some (.Name x pos')) pos.line X.env=pure false:=by rfl) (hf:X.fn x=true∨X.env.scope.names.lookup x=some .local:=by first|exact .inl rfl|exact .inr rfl|assumption) :
    PS X (.Assign [.Name x pos'] e pos) (tS X W (bw i m)):=
  fB (ps_set hN hi hx he hs hf) fun D σ H ⟨env,S,μ,rl,o⟩=>⟨env,S,μ,rl,(OutS.rs rl.env o).mono fun x H1 ⟨μ1,S1,d,st,rs,r,o1⟩=>o1 μ1 H1 _ .refl ((rl.env.step st).set r) rs⟩
/-- x op= e -/
def sAug (i:Nat) (f:Sto→D→D→Option D) (m:ME):MS:=fun env S=>match env[i]? with
  | some (some a)=>(m env S).rs env fun b S=>match f S a b with
    | some d=>.next (env.set i (some d)) S
    | none=>.stuck
  | _=>.stuck
def fh (c:MT) (b:MS):Nat→MS
  | 0=>fun _ _=>.stuck
  | n+1=>fun env S=>(c env S).rs env fun k S=>if k=true then (match b env S with
    | .next env S=>fh c b n env S
    | .cont env S=>fh c b n env S
    | .brk env S=>.next env S
    | .ret d S=>.ret d S
    | .exc e env S=>.exc e env S
    | .stuck=>.stuck) else .next env S
theorem pb (hp:PassesOwn (model X.prog X.w) X.A X.env X.xe) (n:Nat) (hc:PT X c (tT X W tc)) (hb:PSs X body (tS X W b)):PS X (.While c body [] pos) (tS X W (fh tc b n)):=
  fB (ps_while hp hc hb) fun D σ H ⟨env,S,μ,rl,o⟩=>by
    refine ⟨fun n σ H=>∃env S μ,Rl X.K X.mg μ H env σ S∧OutS X.K X.mg W μ H D (fh tc b n env S),⟨n,env,S,μ,rl,o⟩,?_⟩
    rintro n σ H ⟨env,S,μ,rl,o⟩
    cases n with
    | zero=>exact o.elim
    | succ n=>
      unfold fh at o
      refine ⟨env,S,μ,rl,(OutS.rs rl.env o).mono fun k H1 ⟨μ1,S1,k',st,rs,r,o1⟩=>?_⟩
      subst r
      cases k with
      | false=>exact o1 μ1 H1 σ .refl (rl.env.step st) rs
      | true=>
        refine ⟨fun σ H=>∃env S μ,Rl X.K X.mg μ H env σ S∧OutS X.K X.mg W μ H D (fh tc b n env S),fun σ' H' w=>⟨n,Nat.lt_succ_self n,w⟩,env,S1,μ1,⟨rl.env.step st,rs⟩,?_⟩
        simp only[if_true] at o1
        cases hb:b env S1 with
        | next e S=>rw[hb] at o1; exact fun μ' H' σ' s t u=>⟨e,S,μ',⟨t,u⟩,OutS.of_step s o1⟩
        | cont e S=>rw[hb] at o1; exact fun μ' H' σ' s t u=>⟨e,S,μ',⟨t,u⟩,OutS.of_step s o1⟩
        | brk e S=>rw[hb] at o1; exact o1
        | ret d S=>rw[hb] at o1; exact o1
        | exc e v S=>rw[hb] at o1; exact o1
        | stuck=>rw[hb] at o1; exact o1
end
end DL
namespace PySem
open PySem PySem.Sem
set_option maxHeartbeats 1000000 in
theorem jL {v:Value} {o:Obj} {H:Heap→Prop} (B:Begins v o H) :
    Meets (Builtin.«enumerate.__new__» ⟨[.type "enumerate",v],[]⟩) (fun _ R s=>H s.heap∧
      R (.ok (.ret (.ref (s.heap.push o).objs.size))) { s with heap:=(s.heap.push o).push { cls:=.type "enumerate",data:=.fields #[.none,.bool false,.ref s.heap.objs.size,rawInt 0,.none,.none] } }):=
  .of_wp fun prog w A R s h=>by
    obtain ⟨hp,g,d,tk,os⟩:=s; obtain ⟨h1,h⟩:=h
    have hsub:=sub_enumerate
    have q1:∀ {A':Around} {E:Value→Shared→Prop} {Q:Value→Shared→Prop},Q (.ref hp.objs.size) ⟨hp.push o,g,d,tk,os⟩→wpAny (model prog w) A' (pyIter v) Q E ⟨hp,g,d,tk,os⟩:=
      fun q=>B.iter prog w _ _ ⟨hp,g,d,tk,os⟩ _ h1 q
    wp_walk using q1
    refine wpAny_stack_any fun st=>wpAny_pure ?_
    split
    · rename_i c _ _ _ _ _
      cases (c == Value.type "enumerate")
      · wp_walk using q1
        exact ⟨_,rfl,h⟩
      · wp_walk using q1
        exact ⟨_,rfl,h⟩
    · wp_walk using q1
      exact ⟨_,rfl,h⟩
theorem dl_enum_begins {prog:Program} {w:World} {A:Around} {E:Value→Shared→Prop} {s:Shared} {v:Value} {o:Obj} {H:Heap→Prop} {Q:Value→Shared→Prop} (B:Begins v o H) (h1:H s.heap)
    (h:∀h',IsEnum h' (s.heap.objs.size+1) s.heap.objs.size 0 .none→h'.get? s.heap.objs.size=some o→h'.objs.size=s.heap.objs.size+2→
      (∀b o,s.heap.get? b=some o→h'.get? b=some o)→Q (.ref (s.heap.objs.size+1)) { s with heap:=h' }) :
    wpAny (model prog w) A (call (.type "enumerate") [v]) Q E s:=by
  refine callType_new F.called_enumerate (by decide) (F.typeCall_enumerate_1 _) (F.newCall_enumerate_1 _) (fun obj=>F.args_object_init_2 obj _) F.entry_enumerate_new
    (jL B) ⟨h1,?_⟩
  have hz:(s.heap.push o).objs.size=s.heap.objs.size+1:=Heap.size_push ..
  show _∧_
  rw[hz]
  have he:IsEnum ((s.heap.push o).push { cls:=.type "enumerate",data:=.fields #[.none,.bool false,.ref s.heap.objs.size,rawInt 0,.none,.none] }) (s.heap.objs.size+1) s.heap.objs.size 0 .none:=by
    have:=Heap.get?_push_size (s.heap.push o) (o:={ cls:=.type "enumerate",data:=.fields #[.none,.bool false,.ref s.heap.objs.size,rawInt 0,.none,.none] }) rfl
    rw[hz] at this; exact this
  refine ⟨⟨_,he,rfl⟩,h _ he (Heap.get?_push_of_some _ (Heap.get?_push_size _ B.free)) (by rw[Heap.size_push,hz]) fun b o x=>Heap.get?_push_of_some _ (Heap.get?_push_of_some _ x)⟩
end PySem
namespace DL
open PySem PySem.Spec PyProof.Rows L2
theorem vI {H:Hp} {a b:Addr} {u:HO} (h:Rd H a u) (n:H b=none):a≠b:=fun z=>by
  subst z
  rcases h with h|⟨o,h⟩<;>(rw[n] at h; cases h)
def IteT (a:Addr):It:=
  ⟨fun i H=>∃(xs:List V) (x:V),Rd H a (.tup xs)∧xs[i]?=some x,fun i H v H'=>∃T x,v=.ref T∧H T=none∧H'=upd H T (.tup [.int (i:Nat),x])∧∀xs,Rd H a (.tup xs)→xs[i]?=some x,fun i H=>∃xs:List V,Rd H a (.tup xs)∧xs.length=i⟩
theorem rV {P:Program} {w:World} {K:PySem.W.Frag} {elts:List Expr} {kk:Nat} {tpos:Pos} (a e it:Addr) :
    Turn P w K (.Tuple elts kk tpos) (IteT a) [e,it] e (fun i h=>(∃old,IsEnum h e it ((i:Nat):Int) old)∧h.IsTupleIter it a i∧e≠it) where
  mem:=by simp
  obj:=fun i h st b hb=>by
    obtain ⟨⟨old,he⟩,⟨o,ho,hc,hd⟩,_⟩:=st
    have e':b=e∨b=it:=by simpa using hb
    rcases e' with z|z
    · rw[z]; exact ⟨_,he,fun v q=>nomatch q⟩
    · rw[z]; exact ⟨o,ho,fun v q=>by rw[hd] at q; cases q⟩
  keep:=fun i h h' st k=>let ⟨⟨old,he⟩,hi,hne⟩:=st; ⟨⟨old,k e (by simp) _ he⟩,hi.at fun o q=>k it (by simp) o q,hne⟩
  item:=by
    intro X hP hw hK hc i pins s σ H E I hf st hg
    subst hP hw hK
    obtain ⟨⟨old,he⟩,hit,hne⟩:=st
    obtain ⟨xs,x,hq,hx⟩:=hg
    obtain ⟨its,rv,p,hz⟩:=I.tuple (.inl hq)
    obtain ⟨u,hu,ru⟩:=rv.get hx
    have hel:e<s.heap.objs.size:=Heap.lt_size he
    have hil:it<s.heap.objs.size:=by obtain ⟨_,q,_⟩:=hit; exact Heap.lt_size q
    have hai:a≠it:=vI hq (hf it (by simp)).1
    have hae:a≠e:=vI hq (hf e (by simp)).1
    have D:=PySem.Draws.tuple (prog:=X.prog) (w:=X.w) (A:=X.A.in1) (I.ok.hd hc) it a hai its.toArray
    have hlt:i<its.toArray.size:=by
      have:=(List.getElem?_eq_some_iff.mp hu).1
      simpa using this
    refine PySem.wpAny_pyNext_enum_itemD D he ⟨hit,p⟩ hlt hne (by simp[hne,hae.symm]) fun x' h' tk hx' ho hit' hT hsz hk=>?_
    have ex:x'=u:=by
      have q:its.toArray[i]?=some x':=hx'
      have q2:its.toArray[i]?=some u:=by simpa using hu
      rw[q] at q2; exact Option.some.inj q2
    subst ex
    refine ⟨_,rfl,wpAny_letOwnedTupleGo_enum (s:={ s with heap:=h',toks:=tk+1 }) ho fun h'' he' sb=>?_⟩
    have hT2:h''.get? s.heap.objs.size=some { cls:=.type "tuple",data:=.seq #[.int i tk,x'] }:=(sb.2 _ (Nat.ne_of_gt hel)).trans hT
    have new:ObjOk X.prog X.w (upd H s.heap.objs.size (.tup [.int (i:Nat),x])) h'' s.heap.objs.size (.tup [.int (i:Nat),x]):=
      ⟨by show 2≤sizeLine; decide,[.int i tk,x'],.cons ⟨_,rfl⟩ (.cons ru .nil),⟨_,hT2,rfl,_,rfl⟩⟩
    have I1:L2.Inv X pins σ (upd H s.heap.objs.size (.tup [.int (i:Nat),x])) { s with heap:=h'',toks:=tk+1 }:=
      I.turnedNew (ch:=[e,it]) (fun b ob hb q=>(sb.2 b (fun z=>hb (by simp[z]))).trans (hk b ob (fun z=>hb (by simp[z])) (fun z=>hb (by simp[z])) q)) hf (Nat.le_refl _) new
    refine ⟨.ref s.heap.objs.size,_,I1,rfl,⟨_,x,rfl,I.hok.fresh (Nat.le_refl _),rfl,fun ys hy=>by rw[I.tuple_inj (.inl hy) (.inl hq)]; exact hx⟩,⟨⟨x',?_⟩,hit'.1.at fun o q=>(sb.2 it (Ne.symm hne)).trans q,hne⟩,fun b hb=>?_⟩
    · have e1:((i+1:Nat):Int)=(i:Int)+1:=by omega
      rw[e1]; exact he'
    · have hb':b<s.heap.objs.size:=by
        have e':b=e∨b=it:=by simpa using hb
        rcases e' with z|z
        · rw[z]; exact hel
        · rw[z]; exact hil
      rw[upd_ne (Nat.ne_of_lt hb')]
      exact (hf b hb).1
  done:=by
    intro X hP hw hK hc i pins s σ H E I hf st hg
    subst hP hw hK
    obtain ⟨⟨old,he⟩,hit,hne⟩:=st
    obtain ⟨xs,hq,hx⟩:=hg
    obtain ⟨its,rv,p,hz⟩:=I.tuple (.inl hq)
    obtain ⟨f0,f1,f2,f3,f4,f5⟩:=hf it (by simp)
    have hl:=rv.length
    have hai:a≠it:=vI hq (hf it (by simp)).1
    have hsz:its.toArray.size=i:=by simp; omega
    have D:=PySem.Draws.tuple (prog:=X.prog) (w:=X.w) (A:=X.A.in1) (I.ok.hd hc) it a hai its.toArray
    exact PySem.wpAny_pyNext_enum_endD D he (show _ from ⟨by rw[hsz]; exact hit,p⟩) fun h' eb=>⟨rfl,I.turned (t':=s.toks) (fun b o hb q=>eb b o hb q) f0 f1 f3 f4 f5⟩
  self:=fun A i s Q E st h=>let ⟨⟨_,he⟩,_⟩:=st; wpAny_pyIter_enum he h
inductive ItD where
  | items (ds:List D)|live (l:Nat)|liveE (l:Nat)
abbrev MI:=En→Sto→Res ItD
structure dM (K:PySem.W.Frag) (mg:Str→Option Value) (μ1:Mu) (H1:Hp) (ds:List D) (J:It):Prop where
  goes:∀i μ H,i<ds.length→Stp μ1 H1 μ H→J.go i H
  stops:∀μ H,Stp μ1 H1 μ H→J.stop ds.length H
  yields:∀i d μ H S x H',ds[i]?=some d→Stp μ1 H1 μ H→RelS K mg μ H S→J.yld i H x H'→Sm H H'∧Rep K mg μ H' d x
def WalkOk (K:PySem.W.Frag) (mg:Str→Option Value) (μ1:Mu) (H1:Hp):ItD→It→Prop
  | .items ds,J=>dM K mg μ1 H1 ds J
  | .live l,J=>∃a,μ1.l[l]?=some a∧J=Itl K a
  | .liveE l,J=>∃a,μ1.l[l]?=some a∧J=Ite K a
def tI (X:Cx) (W:WX) (mi:MI):TI:=fun σ H R=>tM X (fun μ H it J=>WalkOk X.K X.mg μ H it J) W mi σ H R
theorem vJ {X:Cx} {tg e:Expr} {t t':TI} (h:PI X tg e t) (i:∀σ H R,t' σ H R→t σ H R):PI X tg e t':=⟨fun pins s σ H R I w=>h.run pins s σ H R I (i σ H R w)⟩
def g4 (z:Str):List D:=z.cps.toList.map fun c=>.str ⟨#[c]⟩
def bI (S:Sto) (d:D):Option ItD:=match vt d with
  | .tup xs=>some (.items xs)
  | .lst xs=>some (.items xs)
  | .ro xs=>some (.items xs)
  | .str z=>some (.items (g4 z))
  | .loc l=>match S[l]? with
    | some (.lst _)=>some (.live l)
    | some (.fdc _ kvs)=>some (.items (kvs.map (·.1)))
    | _=>none
  | _=>none
def cF (m:ME):MI:=fun env S=>(m env S).bind fun d S=>ofO S (bI S d)
section
variable {K:PySem.W.Frag} {mg:Str→Option Value} {μ:Mu} {H:Hp} {a:Addr} {xs:List D} {vs:List V}
theorem uO (h:Rd H a (.tup vs)) (n:a∉μ) (r:RepAll K mg μ H xs vs):dM K mg μ H xs (Itt K a) where
  goes:=fun i μ' H' hi st=>⟨vs,vs[i]'(by rw[←r.length]; exact hi),.inl (dB st h n).1,by simp⟩
  stops:=fun μ' H' st=>⟨vs,.inl (dB st h n).1,by rw[r.length]; exact Nat.le_refl _⟩
  yields:=fun i d μ' H' S x H2 e st rs y=>by
    obtain ⟨rfl,y⟩:=y
    obtain ⟨v,h1,h2⟩:=r.get e
    have q:=y vs (.inl (dB st h n).1)
    rw[h1] at q; cases q
    exact ⟨.rfl,Rep.stp st _ _ h2⟩
theorem nJ (h:L2.SqL K H a vs) (hs:∀μ' H',Stp μ H μ' H'→L2.SqL K H' a vs) (r:RepAll K mg μ H xs vs):dM K mg μ H xs (Itl K a) where
  goes:=fun i μ' H' hi st=>⟨vs,vs[i]'(by rw[←r.length]; exact hi),hs _ _ st,by simp⟩
  stops:=fun μ' H' st=>⟨vs,hs _ _ st,by rw[r.length]; exact Nat.le_refl _⟩
  yields:=fun i d μ' H' S x H2 e st rs y=>by
    obtain ⟨rfl,y⟩:=y
    obtain ⟨v,h1,h2⟩:=r.get e
    have q:=y vs (hs _ _ st)
    rw[h1] at q; cases q
    exact ⟨.rfl,Rep.stp st _ _ h2⟩
theorem RelS.ntup {S:Sto} (rs:RelS K mg μ H S) {q:Addr} {us:List V} (e:H q=some (.tup us)):q∉μ:=fun z=>by
  rcases z with z|z
  · obtain ⟨l,hl,e2⟩:=List.getElem_of_mem z
    have hl2:l<S.length:=by rw[rs.len]; exact hl
    obtain ⟨a',h1,h2⟩:=rs.at_ l _ (List.getElem?_eq_getElem hl2)
    rw[List.getElem?_eq_getElem hl,e2] at h1; cases h1
    generalize S[l]=o at h2
    cases o with
    | lst ds=>obtain ⟨vs,h1,h2⟩:=h2; rw[e] at h1; cases h1
    | any=>obtain ⟨u,q,t⟩:=h2; rw[e] at q; cases q; rcases t with ⟨_,t⟩|⟨_,t⟩|⟨_,t⟩<;>cases t
    | dct t kvs=>cases t<;>(obtain ⟨vs,ks,⟨q,k⟩,h2⟩:=h2; rw[e] at q; cases q)
    | ins C fs=>obtain ⟨Ca,dx,vs,g,h1,h2⟩:=h2; rw[e] at h1; cases h1
    | fdc t kvs=>cases t<;>(obtain ⟨vs,ks,⟨⟨od,q⟩,k⟩,h2⟩:=h2; rw[e] at q; cases q)
  · obtain ⟨u,h1,h2⟩:=rs.hid q z
    rw[e] at h1; cases h1
    rcases h2 with ⟨_,h⟩|⟨_,h⟩|⟨_,h⟩<;>cases h
theorem pc (k:Key):Rep K mg μ H (de k) (kV k):=by
  cases k with
  | inl i=>exact bB i
  | inr x=>exact gN x
theorem nK:∀ks:List Key,RepAll K mg μ H (ks.map de) (ks.map kV)
  | []=>.nil
  | k::ks=>.cons (pc k) (nK ks)
theorem rW {od:Obj} {ks:List Key} {us:List V} (h:H a=some (.frz od (.dK (ks.zip us)))) (hl:ks.length=us.length):dM K mg μ H (ks.map de) (Itk a od (ks.zip us)) where
  goes:=fun i μ' H' hi st=>⟨st.kf _ _ _ h,by simp at hi ⊢; omega⟩
  stops:=fun μ' H' st=>⟨st.kf _ _ _ h,by simp; omega⟩
  yields:=fun i d μ' H' S x H2 e st rs y=>by
    obtain ⟨rfl,k,v,h1,rfl⟩:=y
    have hk:ks[i]?=some k:=by
      have:=congrArg (Option.map (·.1)) h1
      rw[←List.getElem?_map,List.map_fst_zip (by omega)] at this
      simpa using this
    rw[List.getElem?_map,hk] at e
    cases e
    exact ⟨.rfl,pc k⟩
theorem pd {od:Obj} {ks:List (List Key)} {us:List V} (h:H a=some (.frz od (.dT (ks.zip us)))) (hl:ks.length=us.length):dM K mg μ H (ks.map fT) (Itkt a od (ks.zip us)) where
  goes:=fun i μ' H' hi st=>⟨st.kf _ _ _ h,by simp at hi ⊢; omega⟩
  stops:=fun μ' H' st=>⟨st.kf _ _ _ h,by simp; omega⟩
  yields:=fun i d μ' H' S x H2 e st rs y=>by
    obtain ⟨rfl,k,v,q,h1,rfl,h2⟩:=y
    have hk:ks[i]?=some k:=by
      have:=congrArg (Option.map (·.1)) h1
      rw[←List.getElem?_map,List.map_fst_zip (by omega)] at this
      simpa using this
    rw[List.getElem?_map,hk] at e
    cases e
    refine ⟨.rfl,?_⟩
    unfold fT Rep
    exact ⟨q,_,rfl,h2,rs.ntup h2,nK k⟩
theorem pi {κ:Type} {g:κ→D} {kvs:List (D × D)} {ks:List κ} {us:List V} (e:kvs.map (·.1)=ks.map g) (r:RepAll K mg μ H (kvs.map (·.2)) us):ks.length=us.length:=by
  have h1:=congrArg List.length e
  have h2:=r.length
  simp at h1 h2
  omega
theorem uP (z:Str):dM K mg μ H (g4 z) (Its z) where
  goes:=fun i μ' H' hi st=>by
    have:(g4 z).length=z.cps.size:=by simp[g4]
    show i<z.cps.size
    omega
  stops:=fun μ' H' st=>by
    show z.cps.size≤(g4 z).length
    simp[g4]
  yields:=fun i d μ' H' S x H2 e st rs y=>by
    obtain ⟨rfl,c,hc,rfl⟩:=y
    refine ⟨.rfl,?_⟩
    unfold g4 at e
    rw[List.getElem?_map] at e
    have:z.cps.toList[i]?=some c:=by simpa using hc
    rw[this] at e
    cases e
    exact gN _
end
section
variable {X:Cx} {W:WX} {tg e:Expr} {m:ME}
theorem oU {pins:List (Addr × Obj)} {s1:Shared} {σ:L2.St} {H1:Hp} {R:It→Hp→Prop} {E:Value→Shared→Prop} {a:Addr} {xs:List V} (I1:L2.Inv X pins σ H1 s1) (hq:L2.SqL X.K H1 a xs) (q:R (Itl X.K a) H1) :
    wpAny (model X.prog X.w) X.A (pyIter (.ref a)) (PIE X pins σ tg R) E s1:=by
  obtain ⟨its,rv,p,hz⟩:=I1.list hq
  refine wpAny_pyIter_list p.isList ?_
  refine ⟨s1.heap.objs.size,[s1.heap.objs.size],_,_,H1,rfl,I1.kept (t':=s1.toks) fun b o e=>Heap.get?_push_of_some _ e,turn_list a _,⟨_,Heap.get?_push_size _ rfl,rfl,rfl⟩,fun b hb=>?_,q⟩
  have e:b=s1.heap.objs.size:=by simpa using hb
  subst e
  exact I1.fpOk (Nat.le_refl _) (I1.hok.fresh (Nat.le_refl _))
theorem it_tup {pins:List (Addr × Obj)} {s1:Shared} {σ:L2.St} {H1:Hp} {R:It→Hp→Prop} {E:Value→Shared→Prop} {a:Addr} {xs:List V} (I1:L2.Inv X pins σ H1 s1) (hq:L2.SqT X.K H1 a xs) (q:R (Itt X.K a) H1) :
    wpAny (model X.prog X.w) X.A (pyIter (.ref a)) (PIE X pins σ tg R) E s1:=by
  obtain ⟨its,rv,p,hz⟩:=I1.tuple hq
  refine wpAny_pyIter_tuple (show s1.heap.IsTuple a its.toArray from p) ?_
  refine ⟨s1.heap.objs.size,[s1.heap.objs.size],_,_,H1,rfl,I1.kept (t':=s1.toks) fun b o e=>Heap.get?_push_of_some _ e,turn_tuple a _,⟨_,Heap.get?_push_size _ rfl,rfl,rfl⟩,fun b hb=>?_,q⟩
  have e:b=s1.heap.objs.size:=by simpa using hb
  subst e
  exact I1.fpOk (Nat.le_refl _) (I1.hok.fresh (Nat.le_refl _))
theorem xM {pins:List (Addr × Obj)} {s1:Shared} {σ:L2.St} {H1:Hp} {R:It→Hp→Prop} {E:Value→Shared→Prop} {d:Addr} {o:Obj} {kvs:List (Key × V)} (I1:L2.Inv X pins σ H1 s1) (hd:H1 d=some (.frz o (.dK kvs))) (q:R (Itk d o kvs) H1) :
    wpAny (model X.prog X.w) X.A (pyIter (.ref d)) (PIE X pins σ tg R) E s1:=by
  obtain ⟨hs,hgd,hx,es,ep,vs,hdt,hsz,kv,hm⟩:=I1.frzK hd
  refine iter_keys hs hgd hx hdt (pi_one (tk:=s1.toks) I1 _ (turn_keys _ hdt) ⟨_,Heap.get?_push_size _ rfl,rfl,?_⟩ q)
  rw[hsz]<;>rfl
theorem vK {pins:List (Addr × Obj)} {s1:Shared} {σ:L2.St} {H1:Hp} {R:It→Hp→Prop} {E:Value→Shared→Prop} {d:Addr} {o:Obj} {kvs:List (List Key × V)} (I1:L2.Inv X pins σ H1 s1) (hd:H1 d=some (.frz o (.dT kvs))) (q:R (Itkt d o kvs) H1) :
    wpAny (model X.prog X.w) X.A (pyIter (.ref d)) (PIE X pins σ tg R) E s1:=by
  obtain ⟨hs,hgd,hx,es,ep,hdt,hsz,ent⟩:=I1.frzT hd
  refine iter_keys hs hgd hx hdt (pi_one (tk:=s1.toks) I1 _ (turn_keysT _ hdt) ⟨_,Heap.get?_push_size _ rfl,rfl,?_⟩ q)
  rw[hsz]<;>rfl
/-- a text's value walked -/
theorem it_str {pins:List (Addr × Obj)} {s1:Shared} {σ:L2.St} {H1:Hp} {R:It→Hp→Prop} {z:Str} {v:Value} (I1:L2.Inv X pins σ H1 s1) (r:RelV (.str z) v) (q:R (Its z) H1) :
    wpAny (model X.prog X.w) X.A (pyIter v) (PIE X pins σ tg R) X.xe s1:=by
  obtain ⟨t,rfl⟩:=r
  cases ha:z.cps.all (·<128)
  · exact wpAny_pyIter_wide ha (pi_one (tk:=s1.toks) I1 _ (turn_str _ z t "str_iterator" (.inr rfl)) ⟨_,Heap.get?_push_size _ rfl,rfl,rfl⟩ q)
  · exact wpAny_pyIter_ascii ha (pi_one (tk:=s1.toks) I1 _ (turn_str _ z t "str_ascii_iterator" (.inl rfl)) ⟨_,Heap.get?_push_size _ rfl,rfl,rfl⟩ q)
theorem ka {d e:D} (h:vt d=e) (n:∀xs,e≠.tup xs):d=e:=by
  cases d with
  | tpn xs=>exact absurd h.symm (n xs)
  | _=>exact h
theorem az (h:PE X e (tE X W m)):PI X tg e (tI X W (cF m)):=⟨fun pins s σ H R I ⟨env,S,μ,rl,o⟩=>by
  refine thn (h.run pins s σ H _ I ⟨env,S,μ,rl,Out.bind o⟩) fun v s1 ⟨x,H1,I1,r1,μ1,S1,d,st,rs,rd,o1⟩=>?_
  have rw0:=rd.wv.vt
  unfold bI at o1
  split at o1
  · rename_i ev
    rw[ev] at rw0
    obtain ⟨a,vs,rfl,h1,h2,n⟩:=rw0
    cases r1
    exact it_tup I1 (.inl h1) (o1 _ _ _ .refl rs (uO h1 n h2))
  · rename_i ev
    rw[ka ev nofun] at rd
    unfold Rep at rd
    obtain ⟨a,vs,rfl,h1,n,h2⟩:=rd
    cases r1
    exact oU I1 (.of h1) (o1 _ _ _ .refl rs (nJ (.of h1) (fun _ _ st=>.of (st.keep _ _ h1 n)) h2))
  · rename_i ev
    rw[ka ev nofun] at rd
    unfold Rep at rd
    obtain ⟨a,vs,rfl,h1,h2⟩:=rd
    cases r1
    exact oU I1 h1.sq (o1 _ _ _ .refl rs (nJ h1.sq (fun _ _ st=>(h1.stp st).sq) h2))
  · rename_i ev
    rw[ka ev nofun] at rd
    unfold Rep at rd
    subst rd
    exact it_str I1 r1 (o1 _ _ _ .refl rs (uP _))
  · rename_i ev
    rw[ka ev nofun] at rd
    unfold Rep at rd
    obtain ⟨a,rfl,hμ⟩:=rd
    cases r1
    split at o1
    · rename_i xs es
      obtain ⟨a',h1,vs,h2,h3⟩:=rs.at_ _ _ es
      rw[hμ] at h1; cases h1
      exact oU I1 (.of h2) (o1 _ _ _ .refl rs ⟨_,hμ,rfl⟩)
    · rename_i t kvs es
      obtain ⟨a',h1,h2⟩:=rs.at_ _ _ es
      rw[hμ] at h1; cases h1
      cases t with
      | false=>
        obtain ⟨vs,ks,⟨⟨od,q⟩,hk⟩,rr⟩:=h2
        rw[hk] at o1
        exact xM I1 q (o1 _ _ _ .refl rs (rW q (pi hk rr)))
      | true=>
        obtain ⟨vs,ks,⟨⟨od,q⟩,hk⟩,rr⟩:=h2
        rw[hk] at o1
        exact vK I1 q (o1 _ _ _ .refl rs (pd q (pi hk rr)))
    · exact o1.elim
  · exact o1.elim⟩
def jy (lo:Int) (n:Nat):List D:=(List.range n).map fun i=>.int (lo+(i:Nat))
theorem nL {K:PySem.W.Frag} {mg:Str→Option Value} {μ:Mu} {H:Hp} (lo:Int) (n:Nat):dM K mg μ H (jy lo n) (Itr lo n) where
  goes:=fun i μ' H' hi st=>by
    have:(jy lo n).length=n:=by simp[jy]
    show i<n
    omega
  stops:=fun μ' H' st=>by
    show n≤(jy lo n).length
    simp[jy]
  yields:=fun i d μ' H' S x H2 e st rs y=>by
    obtain ⟨rfl,rfl⟩:=y
    refine ⟨.rfl,?_⟩
    unfold jy at e
    rw[List.getElem?_map] at e
    obtain ⟨j,hj,hd⟩:=Option.map_eq_some_iff.mp e
    have:j=i:=by
      have q:=List.getElem?_eq_some_iff.mp hj
      obtain ⟨h1,h2⟩:=q
      rw[List.getElem_range] at h2
      exact h2.symm
    subst this
    subst hd
    exact bB _
/-- of at most 63 bits; no kernel is to reckon it -/
noncomputable def bK (i:Int):Bool:=@decide (-(2 ^ 62)≤i∧i<2 ^ 62) (Classical.propDecidable _)
theorem smallI_iff {i:Int}:bK i=true ↔ -(2 ^ 62)≤i∧i<2 ^ 62:=by
  unfold bK
  exact @decide_eq_true_iff _ (Classical.propDecidable _)
noncomputable def g5 (r:MA):MI:=fun env S=>(r env S).bind fun ds S=>match ds with
  | [.int j]=>if bK j then .ok (.items (jy 0 j.toNat)) S else .stuck
  | _=>.stuck
noncomputable def ll (r:MA):MI:=fun env S=>(r env S).bind fun ds S=>match ds with
  | [.int i,.int j]=>if bK i&&bK j then .ok (.items (jy i (j - i).toNat)) S else .stuck
  | _=>.stuck
variable {a b:Expr} {p pos:Pos} {r:MA}
theorem cU {K:PySem.W.Frag} {mg:Str→Option Value} {μ:Mu} {H:Hp} {a:D} {vs:List V} (h:RepAll K mg μ H [a] vs):∃v,vs=[v]∧Rep K mg μ H a v:=by
  unfold RepAll at h
  obtain ⟨v,q,rfl,r1,r2⟩:=h
  unfold RepAll at r2
  subst r2
  exact ⟨v,rfl,r1⟩
theorem iL {K:PySem.W.Frag} {mg:Str→Option Value} {μ:Mu} {H:Hp} {a b:D} {vs:List V} (h:RepAll K mg μ H [a,b] vs):∃v w,vs=[v,w]∧Rep K mg μ H a v∧Rep K mg μ H b w:=by
  unfold RepAll at h
  obtain ⟨v,q,rfl,r1,r2⟩:=h
  obtain ⟨w,rfl,r3⟩:=cU r2
  exact ⟨v,w,rfl,r1,r3⟩
theorem jM (hg:Gl X "range") (hm:X.mg "range"=none) (ha:PA X [a] (tAs X W r)) (hs:starEach [a] X.env=[(false,eval a X.env)]:=by rfl):PI X tg (.Call (.Name "range" p) [a] [] pos) (tI X W (g5 r)):=
  vJ (pi_range1 hg hm ha hs) fun σ H R ⟨env,S,μ,rl,o⟩=>⟨env,S,μ,rl,(Out.bind o).mono fun vs H1 ⟨μ1,S1,ds,st,rs,rd,o1⟩=>by
    split at o1
    · rename_i j
      obtain ⟨v,rfl,r1⟩:=cU rd
      unfold Rep at r1
      subst r1
      split at o1
      · rename_i hj
        rw[smallI_iff] at hj
        exact ⟨j,rfl,hj.1,hj.2,o1 _ _ _ .refl rs (nL 0 _)⟩
      · exact o1.elim
    · exact o1.elim⟩
theorem tN (hg:Gl X "range") (hm:X.mg "range"=none) (ha:PA X [a,b] (tAs X W r)) (hs:starEach [a,b] X.env=[(false,eval a X.env),(false,eval b X.env)]:=by rfl) (hs2:starEach [b] X.env=[(false,eval b X.env)]:=by rfl):PI X tg (.Call (.Name "range" p) [a,b] [] pos) (tI X W (ll r)):=
  vJ (pi_range2 hg hm ha hs hs2) fun σ H R ⟨env,S,μ,rl,o⟩=>⟨env,S,μ,rl,(Out.bind o).mono fun vs H1 ⟨μ1,S1,ds,st,rs,rd,o1⟩=>by
    split at o1
    · rename_i i j
      obtain ⟨v,w,rfl,r1,r2⟩:=iL rd
      unfold Rep at r1 r2
      subst r1 r2
      split at o1
      · rename_i hj
        rw[Bool.and_eq_true,smallI_iff,smallI_iff] at hj
        exact ⟨i,j,rfl,⟨hj.1.1,hj.1.2,hj.2.1,hj.2.2⟩,o1 _ _ _ .refl rs (nL i _)⟩
      · exact o1.elim
    · exact o1.elim⟩
def di (n:Nat):List D→List D
  | []=>[]
  | d::ds=>.tup [.int (n:Nat),d]::di (n+1) ds
theorem jz:∀(ds:List D) (n i:Nat) (d:D),(di n ds)[i]?=some d→∃e,ds[i]?=some e∧d=.tup [.int ((n+i:Nat):Int),e]
  | [],n,i,d,h=>by simp[di] at h
  | a::ds,n,0,d,h=>by
    simp[di] at h
    exact ⟨a,rfl,h.symm⟩
  | a::ds,n,i+1,d,h=>by
    have h:(di (n+1) ds)[i]?=some d:=by simpa [di] using h
    obtain ⟨e,h1,h2⟩:=jz ds (n+1) i d h
    exact ⟨e,by simpa using h1,by rw[h2]; congr 3; omega⟩
theorem dN:∀(ds:List D) (n:Nat),(di n ds).length=ds.length
  | [],_=>rfl
  | a::ds,n=>by simp[di,dN ds]
theorem pj {K:PySem.W.Frag} {mg:Str→Option Value} {μ:Mu} {H:Hp} {a:Addr} {xs:List D} {vs:List V} (h:Rd H a (.tup vs)) (n:a∉μ) (r:RepAll K mg μ H xs vs):dM K mg μ H (di 0 xs) (IteT a) where
  goes:=fun i μ' H' hi st=>⟨vs,vs[i]'(by rw[dN] at hi; rw[←r.length]; exact hi),(dB st h n).1,by simp⟩
  stops:=fun μ' H' st=>⟨vs,(dB st h n).1,by rw[dN,r.length]⟩
  yields:=fun i d μ' H' S x H2 e st rs y=>by
    obtain ⟨T,w,rfl,hT,rfl,y⟩:=y
    obtain ⟨d',h1,h2⟩:=jz _ _ _ _ e
    obtain ⟨v,h3,h4⟩:=r.get h1
    have q:=y vs ((dB st h n).1)
    rw[h3] at q; cases q
    subst h2
    exact ⟨.upd hT,bG rs hT (.cons (by rw[Nat.zero_add]; exact bB _) (.cons (Rep.stp st _ _ h4) .nil))⟩
theorem po {K:PySem.W.Frag} {mg:Str→Option Value} {μ:Mu} {H:Hp} {a:Addr} {xs:List D} {vs:List V} (h:L2.SqL K H a vs) (hs:∀μ' H',Stp μ H μ' H'→L2.SqL K H' a vs) (r:RepAll K mg μ H xs vs):dM K mg μ H (di 0 xs) (Ite K a) where
  goes:=fun i μ' H' hi st=>⟨vs,vs[i]'(by rw[dN] at hi; rw[←r.length]; exact hi),hs _ _ st,by simp⟩
  stops:=fun μ' H' st=>⟨vs,hs _ _ st,by rw[dN,r.length]; exact Nat.le_refl _⟩
  yields:=fun i d μ' H' S x H2 e st rs y=>by
    obtain ⟨T,w,rfl,hT,rfl,y⟩:=y
    obtain ⟨d',h1,h2⟩:=jz _ _ _ _ e
    obtain ⟨v,h3,h4⟩:=r.get h1
    have q:=y vs (hs _ _ st)
    rw[h3] at q; cases q
    subst h2
    exact ⟨.upd hT,bG rs hT (.cons (by rw[Nat.zero_add]; exact bB _) (.cons (Rep.stp st _ _ h4) .nil))⟩
def lm (r:MA):MI:=fun env S=>(r env S).bind fun ds S=>match ds.map vt with
  | [.tup xs]=>.ok (.items (di 0 xs)) S
  | [.lst xs]=>.ok (.items (di 0 xs)) S
  | [.loc l]=>match S[l]? with
    | some (.lst _)=>.ok (.liveE l) S
    | _=>.stuck
  | _=>.stuck
theorem j0 {K:PySem.W.Frag} {mg:Str→Option Value} {μ:Mu} {H:Hp} {d0:D} {ds:List D} {vs:List V} (r:RepAll K mg μ H ds vs) (e:ds.map vt=[d0]):∃d v,ds=[d]∧vt d=d0∧vs=[v]∧Rep K mg μ H d v:=by
  match ds,e with
  | [d],e=>
    obtain ⟨v,rfl,r1⟩:=cU r
    exact ⟨d,v,rfl,by simpa using e,rfl,r1⟩
theorem lp {K:PySem.W.Frag} {mg:Str→Option Value} {μ:Mu} {H:Hp} {d0 d1:D} {ds:List D} {vs:List V} (r:RepAll K mg μ H ds vs) (e:ds.map vt=[d0,d1]):∃d d' v w,ds=[d,d']∧(vt d=d0∧vt d'=d1)∧vs=[v,w]∧Rep K mg μ H d v∧Rep K mg μ H d' w:=by
  match ds,e with
  | [d,d'],e=>
    obtain ⟨v,w,rfl,r1,r2⟩:=iL r
    exact ⟨d,d',v,w,rfl,by simpa using e,rfl,r1,r2⟩
theorem tO {tpos:Pos} {elts:List Expr} {kk:Nat} (hg:Gl X "enumerate") (hm:X.mg "enumerate"=none) (ha:PA X [e] (tAs X W r)) (hs:starEach [e] X.env=[(false,eval e X.env)]:=by rfl) :
    PI X (.Tuple elts kk tpos) (.Call (.Name "enumerate" p) [e] [] pos) (tI X W (lm r)):=by
  refine ⟨fun pins s σ H R I ⟨env,S,μ,rl,o⟩=>?_⟩
  refine Call_ (ld_blt I hg hm boot_enumerate (PyProof.Rows.callWith_type1 (thn (ha.run pos pins s σ H _ I ⟨env,S,μ,rl,Out.bind o⟩) fun us s1 ⟨vs,H1,I1,r1,μ1,S1,ds,st,rs,rd,o1⟩=>?_) hs rfl))
  have fresh2:∀b∈[s1.heap.objs.size+1,s1.heap.objs.size],FpOk X pins H1 b:=fun b hb=>by
    have e':b=s1.heap.objs.size+1∨b=s1.heap.objs.size:=by simpa using hb
    have hle:s1.heap.objs.size≤b:=by
      rcases e' with z|z
      · rw[z]; exact Nat.le_add_right _ _
      · rw[z]; exact Nat.le_refl _
    exact I1.fpOk hle (I1.hok.fresh hle)
  split at o1
  · rename_i xs ev
    obtain ⟨d,v,rfl,ed,rfl,r2⟩:=j0 rd ev
    have r2:=r2.wv.vt
    rw[ed] at r2
    obtain ⟨a,ws,rfl,h1,h2,n⟩:=r2
    cases r1 with
    | cons ra rr=>
      cases rr
      cases ra
      obtain ⟨its,rv,p',hz⟩:=I1.tuple (.inl h1)
      refine PySem.dl_enum_begins (PySem.begins_tuple a its.toArray) (show s1.heap.IsTuple a its.toArray from p') fun h' he ho hsz hk=>wpAny_pyIter_enum he ?_
      have I2:L2.Inv X pins σ H1 { s1 with heap:=h' }:=I1.kept (t':=s1.toks) hk
      exact ⟨s1.heap.objs.size+1,[s1.heap.objs.size+1,s1.heap.objs.size],_,_,H1,rfl,I2,rV a (s1.heap.objs.size+1) s1.heap.objs.size,⟨⟨.none,he⟩,⟨_,ho,rfl,rfl⟩,Nat.succ_ne_self _⟩,fresh2,o1 _ _ _ .refl rs (pj h1 n h2)⟩
  · rename_i xs ev
    obtain ⟨d,v,rfl,ed,rfl,r2⟩:=j0 rd ev
    rw[ka ed nofun] at r2
    unfold Rep at r2
    obtain ⟨a,ws,rfl,h1,n,h2⟩:=r2
    cases r1 with
    | cons ra rr=>
      cases rr
      cases ra
      obtain ⟨its,rv,p',hz⟩:=I1.list (.of h1)
      refine call_enumerate_list p'.isList fun h' he hit hsz hk=>wpAny_pyIter_enum he ?_
      have I2:L2.Inv X pins σ H1 { s1 with heap:=h' }:=I1.kept (t':=s1.toks) hk
      exact ⟨s1.heap.objs.size+1,[s1.heap.objs.size+1,s1.heap.objs.size],_,_,H1,rfl,I2,turn_enum a (s1.heap.objs.size+1) s1.heap.objs.size,⟨⟨.none,he⟩,hit,Nat.succ_ne_self _⟩,fresh2,o1 _ _ _ .refl rs (po (.of h1) (fun _ _ st=>.of (st.keep _ _ h1 n)) h2)⟩
  · rename_i l ev
    obtain ⟨d,v,rfl,ed,rfl,r2⟩:=j0 rd ev
    rw[ka ed nofun] at r2
    unfold Rep at r2
    obtain ⟨a,rfl,ha⟩:=r2
    split at o1
    · rename_i xs es
      obtain ⟨a',g1,ws,h1,h2⟩:=rs.at_ _ _ es
      rw[ha] at g1; cases g1
      cases r1 with
      | cons ra rr=>
        cases rr
        cases ra
        obtain ⟨its,rv,p',hz⟩:=I1.list (.of h1)
        refine call_enumerate_list p'.isList fun h' he hit hsz hk=>wpAny_pyIter_enum he ?_
        have I2:L2.Inv X pins σ H1 { s1 with heap:=h' }:=I1.kept (t':=s1.toks) hk
        exact ⟨s1.heap.objs.size+1,[s1.heap.objs.size+1,s1.heap.objs.size],_,_,H1,rfl,I2,turn_enum a (s1.heap.objs.size+1) s1.heap.objs.size,⟨⟨.none,he⟩,hit,Nat.succ_ne_self _⟩,fresh2,o1 _ _ _ .refl rs ⟨a,ha,rfl⟩⟩
    · exact o1.elim
  · exact o1.elim
def eQ:List D→List D→List D
  | a::as,b::bs=>.tup [a,b]::eQ as bs
  | _,_=>[]
theorem lq:∀(as bs:List D) (i:Nat) (d:D),(eQ as bs)[i]?=some d→∃a b,as[i]?=some a∧bs[i]?=some b∧d=.tup [a,b]
  | [],_,i,d,h=>by simp[eQ] at h
  | a::as,[],i,d,h=>by simp[eQ] at h
  | a::as,b::bs,0,d,h=>by
    simp[eQ] at h
    exact ⟨a,b,rfl,rfl,h.symm⟩
  | a::as,b::bs,i+1,d,h=>by
    have h:(eQ as bs)[i]?=some d:=by simpa [eQ] using h
    obtain ⟨x,y,h1,h2,h3⟩:=lq as bs i d h
    exact ⟨x,y,by simpa using h1,by simpa using h2,h3⟩
theorem eG:∀(as bs:List D),(eQ as bs).length=min as.length bs.length
  | [],_=>by simp[eQ]
  | a::as,[]=>by simp[eQ]
  | a::as,b::bs=>by simp[eQ,eG as bs]
theorem rX {K:PySem.W.Frag} {mg:Str→Option Value} {μ:Mu} {H:Hp} {a b:Addr} {xs ys:List D} {vs ws:List V} (h:Rd H a (.tup vs)) (n:a∉μ) (r:RepAll K mg μ H xs vs) (h':Rd H b (.tup ws)) (n':b∉μ) (r':RepAll K mg μ H ys ws) :
    dM K mg μ H (eQ xs ys) (RZ.ItzT K a b) where
  goes:=fun i μ' H' hi st=>by
    rw[eG] at hi
    have h1:i<vs.length:=by rw[←r.length]; omega
    have h2:i<ws.length:=by rw[←r'.length]; omega
    exact ⟨vs,ws,vs[i],ws[i],.inl (dB st h n).1,.inl (dB st h' n').1,by simp,by simp⟩
  stops:=fun μ' H' st=>⟨vs,ws,.inl (dB st h n).1,.inl (dB st h' n').1,by rw[eG,←r.length,←r'.length]; omega⟩
  yields:=fun i d μ' H' S x H2 e st rs y=>by
    obtain ⟨T,w1,w2,rfl,hT,rfl,y1,y2⟩:=y
    obtain ⟨da,db,e1,e2,rfl⟩:=lq _ _ _ _ e
    obtain ⟨u1,g1,k1⟩:=r.get e1
    obtain ⟨u2,g2,k2⟩:=r'.get e2
    have q1:=y1 vs (.inl (dB st h n).1)
    have q2:=y2 ws (.inl (dB st h' n').1)
    rw[g1] at q1; cases q1
    rw[g2] at q2; cases q2
    exact ⟨.upd hT,bG rs hT (.cons (Rep.stp st _ _ k1) (.cons (Rep.stp st _ _ k2) .nil))⟩
theorem rY {K:PySem.W.Frag} {mg:Str→Option Value} {μ:Mu} {H:Hp} {a b:Addr} {xs ys:List D} {vs ws:List V} (h:H a=some (.lst vs)) (n:a∉μ) (r:RepAll K mg μ H xs vs) (h':H b=some (.lst ws)) (n':b∉μ) (r':RepAll K mg μ H ys ws) :
    dM K mg μ H (eQ xs ys) (Itz K a b) where
  goes:=fun i μ' H' hi st=>by
    rw[eG] at hi
    have h1:i<vs.length:=by rw[←r.length]; omega
    have h2:i<ws.length:=by rw[←r'.length]; omega
    exact ⟨vs,ws,vs[i],ws[i],.of (st.keep _ _ h n),.of (st.keep _ _ h' n'),by simp,by simp⟩
  stops:=fun μ' H' st=>⟨vs,ws,.of (st.keep _ _ h n),.of (st.keep _ _ h' n'),by rw[eG,←r.length,←r'.length]; omega⟩
  yields:=fun i d μ' H' S x H2 e st rs y=>by
    obtain ⟨T,w1,w2,rfl,hT,rfl,y1,y2⟩:=y
    obtain ⟨da,db,e1,e2,rfl⟩:=lq _ _ _ _ e
    obtain ⟨u1,g1,k1⟩:=r.get e1
    obtain ⟨u2,g2,k2⟩:=r'.get e2
    have q1:=y1 vs (.of (st.keep _ _ h n))
    have q2:=y2 ws (.of (st.keep _ _ h' n'))
    rw[g1] at q1; cases q1
    rw[g2] at q2; cases q2
    exact ⟨.upd hT,bG rs hT (.cons (Rep.stp st _ _ k1) (.cons (Rep.stp st _ _ k2) .nil))⟩
def tQ (r:MA):MI:=fun env S=>(r env S).bind fun ds S=>match ds.map vt with
  | [.tup xs,.tup ys]=>.ok (.items (eQ xs ys)) S
  | [.lst xs,.lst ys]=>.ok (.items (eQ xs ys)) S
  | _=>.stuck
theorem pI_zip {tpos:Pos} {elts:List Expr} {kk:Nat} {e2:Expr} (hg:Gl X "zip") (hm:X.mg "zip"=none) (ha:PA X [e,e2] (tAs X W r))
    (hs:starEach [e,e2] X.env=(false,eval e X.env)::starEach [e2] X.env:=by rfl) (hpl:(backTo pos (starEach [e2] X.env)).any (·.1)=false:=by rfl) :
    PI X (.Tuple elts kk tpos) (.Call (.Name "zip" p) [e,e2] [] pos) (tI X W (tQ r)):=
  vJ (RZ.pi_zipA hg hm ha hs hpl) fun σ H R ⟨env,S,μ,rl,o⟩=>⟨env,S,μ,rl,(Out.bind o).mono fun vs H1 ⟨μ1,S1,ds,st,rs,rd,o1⟩=>by
    split at o1
    · rename_i ev
      obtain ⟨d,d',v,w,rfl,⟨e1,e2⟩,rfl,r1,r2⟩:=lp rd ev
      have r1:=r1.wv.vt
      have r2:=r2.wv.vt
      rw[e1] at r1
      rw[e2] at r2
      obtain ⟨a,va,rfl,h1,l1,n1⟩:=r1
      obtain ⟨b,vb,rfl,h2,l2,n2⟩:=r2
      exact ⟨a,b,va,vb,rfl,.inr ⟨.inl h1,.inl h2,o1 _ _ _ .refl rs (rX h1 n1 l1 h2 n2 l2)⟩⟩
    · rename_i ev
      obtain ⟨d,d',v,w,rfl,⟨e1,e2⟩,rfl,r1,r2⟩:=lp rd ev
      rw[ka e1 nofun] at r1
      rw[ka e2 nofun] at r2
      unfold Rep at r1 r2
      obtain ⟨a,va,rfl,h1,n1,l1⟩:=r1
      obtain ⟨b,vb,rfl,h2,n2,l2⟩:=r2
      exact ⟨a,b,va,vb,rfl,.inl ⟨.of h1,.of h2,o1 _ _ _ .refl rs (rY h1 n1 l1 h2 n2 l2)⟩⟩
    · exact o1.elim⟩
def g6 (g:MG) (b:MS):List D→MS
  | []=>fun env S=>.next env S
  | d::ds=>fun env S=>match g d env S with
    | none=>.stuck
    | some p=>match b p.1 p.2 with
      | .next env S=>g6 g b ds env S
      | .cont env S=>g6 g b ds env S
      | .brk env S=>.next env S
      | .ret d S=>.ret d S
      | .exc e env S=>.exc e env S
      | .stuck=>.stuck
def gi (g:MG) (b:MS) (l:Nat):Nat→Nat→MS
  | 0,_=>fun _ _=>.stuck
  | n+1,i=>fun env S=>match S[l]? with
    | some (.lst xs)=>match xs[i]? with
      | none=>.next env S
      | some d=>match g d env S with
        | none=>.stuck
        | some p=>match b p.1 p.2 with
          | .next env S=>gi g b l n (i+1) env S
          | .cont env S=>gi g b l n (i+1) env S
          | .brk env S=>.next env S
          | .ret d S=>.ret d S
          | .exc e env S=>.exc e env S
          | .stuck=>.stuck
    | _=>.stuck
/-- with the places,the first one 0 -/
def kc (g:MG) (b:MS) (l:Nat):Nat→Nat→MS
  | 0,_=>fun _ _=>.stuck
  | n+1,i=>fun env S=>match S[l]? with
    | some (.lst xs)=>match xs[i]? with
      | none=>.next env S
      | some d=>match g (.tup [.int (i:Nat),d]) env S with
        | none=>.stuck
        | some p=>match b p.1 p.2 with
          | .next env S=>kc g b l n (i+1) env S
          | .cont env S=>kc g b l n (i+1) env S
          | .brk env S=>.next env S
          | .ret d S=>.ret d S
          | .exc e env S=>.exc e env S
          | .stuck=>.stuck
    | _=>.stuck
def cy (S:Sto) (l:Nat):Nat:=match S[l]? with
  | some (.lst xs)=>xs.length
  | _=>0
def fv (mi:MI) (g:MG) (b:MS):MS:=fun env S=>(mi env S).rs env fun it S=>match it with
  | .items ds=>g6 g b ds env S
  | .live l=>gi g b l (cy S l+1) 0 env S
  | .liveE l=>kc g b l (cy S l+1) 0 env S
theorem cc {iter:Expr} {body:List Stmt} {mi:MI} {g:MG} {b:MS} (hp:PassesOwn (model X.prog X.w) X.A X.env X.xe) (hc:X.calm=true) (hi:PI X tg iter (tI X W mi)) (hg:PG X tg (tG X g)) (hb:PSs X body (tS X W b))
    (hs:∀x,foldedSetIterable iter X.env x=pure x:=by intro _; rfl):PS X (.For tg iter body [] pos) (tS X W (fv mi g b)):=
  fB (ps_for hp hc hi hg hb hs) fun D σ H ⟨env,S,μ,rl,o⟩=>⟨env,S,μ,rl,(OutS.rs rl.env o).mono fun J H1 ⟨μ1,S1,it,st,rs,rd,o1⟩=>by
    cases it with
    | items ds=>
      have rd:dM X.K X.mg μ1 H1 ds J:=rd
      refine ⟨fun i n σ H=>n+i=ds.length∧∃env S μ,Step μ1 H1 μ H∧Rl X.K X.mg μ H env σ S∧OutS X.K X.mg W μ H D (g6 g b (ds.drop i) env S),⟨ds.length,rfl,env,S1,μ1,.refl,⟨rl.env.step st,rs⟩,o1⟩,?_⟩
      rintro i n σ H ⟨hn,env,S,μ,st1,rl,o⟩
      by_cases hi:i<ds.length
      · have ed:ds.drop i=ds[i]::ds.drop (i+1):=List.drop_eq_getElem_cons hi
        rw[ed] at o
        unfold g6 at o
        refine .inr ⟨rd.goes i μ H hi st1.toStp,fun σ H=>∃env S μ,Step μ1 H1 μ H∧Rl X.K X.mg μ H env σ S∧OutS X.K X.mg W μ H D (g6 g b (ds.drop (i+1)) env S),fun σ' H' w=>⟨n - 1,by omega,by omega,w⟩,fun x H' y=>?_⟩
        obtain ⟨sm,rx⟩:=rd.yields i _ μ H S x H' (List.getElem?_eq_getElem hi) st1.toStp rl.sto y
        have stx:Step μ H μ H':=.of_sm sm
        refine ⟨env,S,μ,_,rl.sm sm,rx,?_⟩
        cases hg:g ds[i] env S with
        | none=>rw[hg] at o; exact o.elim
        | some p=>
          rw[hg] at o
          refine fun μ2 H2 σ2 st2 re2 rs2=>⟨p.1,p.2,μ2,⟨re2,rs2⟩,?_⟩
          have o:=OutS.of_step (stx.trans st2) o
          cases hb:b p.1 p.2 with
          | next e S=>simp only[hb] at o; exact fun μ' H' σ' s t u=>⟨e,S,μ',((st1.trans stx).trans st2).trans s,⟨t,u⟩,OutS.of_step s o⟩
          | cont e S=>simp only[hb] at o; exact fun μ' H' σ' s t u=>⟨e,S,μ',((st1.trans stx).trans st2).trans s,⟨t,u⟩,OutS.of_step s o⟩
          | brk e S=>simp only[hb] at o; exact o
          | ret d S=>simp only[hb] at o; exact o
          | exc e v S=>simp only[hb] at o; exact o
          | stuck=>simp only[hb] at o; exact o
      · have e:i=ds.length:=by omega
        subst e
        rw[List.drop_length] at o
        exact .inl ⟨rd.stops μ H st1.toStp,o μ H σ .refl rl.env rl.sto⟩
    | live l=>
      obtain ⟨a,ha,rfl⟩:=rd
      refine ⟨fun i n σ H=>∃env S μ,Step μ1 H1 μ H∧Rl X.K X.mg μ H env σ S∧OutS X.K X.mg W μ H D (gi g b l n i env S),⟨_,env,S1,μ1,.refl,⟨rl.env.step st,rs⟩,o1⟩,?_⟩
      rintro i n σ H ⟨env,S,μ,st1,rl,o⟩
      cases n with
      | zero=>exact o.elim
      | succ n=>
        unfold gi at o
        split at o
        · rename_i xs es
          obtain ⟨a',h1,vs,h2,h3⟩:=rl.sto.at_ _ _ es
          rw[st1.get ha] at h1; cases h1
          split at o
          · rename_i hx
            refine .inl ⟨⟨vs,.of h2,?_⟩,o μ H σ .refl rl.env rl.sto⟩
            rw[←h3.length]
            exact List.getElem?_eq_none_iff.mp hx
          · rename_i d hx
            obtain ⟨v,hv,rv⟩:=h3.get hx
            refine .inr ⟨⟨vs,v,.of h2,hv⟩,fun σ H=>∃env S μ,Step μ1 H1 μ H∧Rl X.K X.mg μ H env σ S∧OutS X.K X.mg W μ H D (gi g b l n (i+1) env S),fun σ' H' w=>⟨n,Nat.lt_succ_self n,w⟩,fun x H' y=>?_⟩
            obtain ⟨rfl,y⟩:=y
            have q:=y vs (.of h2)
            rw[hv] at q; cases q
            refine ⟨env,S,μ,_,rl,rv,?_⟩
            cases hg:g d env S with
            | none=>rw[hg] at o; exact o.elim
            | some p=>
              rw[hg] at o
              refine fun μ2 H2 σ2 st2 re2 rs2=>⟨p.1,p.2,μ2,⟨re2,rs2⟩,?_⟩
              have o:=OutS.of_step st2 o
              cases hb:b p.1 p.2 with
              | next e S=>simp only[hb] at o; exact fun μ' H' σ' s t u=>⟨e,S,μ',(st1.trans st2).trans s,⟨t,u⟩,OutS.of_step s o⟩
              | cont e S=>simp only[hb] at o; exact fun μ' H' σ' s t u=>⟨e,S,μ',(st1.trans st2).trans s,⟨t,u⟩,OutS.of_step s o⟩
              | brk e S=>simp only[hb] at o; exact o
              | ret d S=>simp only[hb] at o; exact o
              | exc e v S=>simp only[hb] at o; exact o
              | stuck=>simp only[hb] at o; exact o
        · exact o.elim
    | liveE l=>
      obtain ⟨a,ha,rfl⟩:=rd
      refine ⟨fun i n σ H=>∃env S μ,Step μ1 H1 μ H∧Rl X.K X.mg μ H env σ S∧OutS X.K X.mg W μ H D (kc g b l n i env S),⟨_,env,S1,μ1,.refl,⟨rl.env.step st,rs⟩,o1⟩,?_⟩
      rintro i n σ H ⟨env,S,μ,st1,rl,o⟩
      cases n with
      | zero=>exact o.elim
      | succ n=>
        unfold kc at o
        split at o
        · rename_i xs es
          obtain ⟨a',h1,vs,h2,h3⟩:=rl.sto.at_ _ _ es
          rw[st1.get ha] at h1; cases h1
          split at o
          · rename_i hx
            refine .inl ⟨⟨vs,.of h2,?_⟩,o μ H σ .refl rl.env rl.sto⟩
            rw[←h3.length]
            exact List.getElem?_eq_none_iff.mp hx
          · rename_i d hx
            obtain ⟨v,hv,rv⟩:=h3.get hx
            refine .inr ⟨⟨vs,v,.of h2,hv⟩,fun σ H=>∃env S μ,Step μ1 H1 μ H∧Rl X.K X.mg μ H env σ S∧OutS X.K X.mg W μ H D (kc g b l n (i+1) env S),fun σ' H' w=>⟨n,Nat.lt_succ_self n,w⟩,fun x H' y=>?_⟩
            obtain ⟨T,w,rfl,hT,rfl,y⟩:=y
            have q:=y vs (.of h2)
            rw[hv] at q; cases q
            have sm:Sm H (upd H T (.tup [.int (i:Int),v])):=.upd hT
            have stx:Step μ H μ (upd H T (.tup [.int (i:Int),v])):=.of_sm sm
            have rx:Rep X.K X.mg μ (upd H T (.tup [.int (i:Int),v])) (.tup [.int (i:Nat),d]) (.ref T):=bG rl.sto hT (.cons (bB _) (.cons rv .nil))
            refine ⟨env,S,μ,_,rl.sm sm,rx,?_⟩
            cases hg:g (.tup [.int (i:Nat),d]) env S with
            | none=>rw[hg] at o; exact o.elim
            | some p=>
              rw[hg] at o
              refine fun μ2 H2 σ2 st2 re2 rs2=>⟨p.1,p.2,μ2,⟨re2,rs2⟩,?_⟩
              have o:=OutS.of_step (stx.trans st2) o
              cases hb:b p.1 p.2 with
              | next e S=>simp only[hb] at o; exact fun μ' H' σ' s t u=>⟨e,S,μ',((st1.trans stx).trans st2).trans s,⟨t,u⟩,OutS.of_step s o⟩
              | cont e S=>simp only[hb] at o; exact fun μ' H' σ' s t u=>⟨e,S,μ',((st1.trans stx).trans st2).trans s,⟨t,u⟩,OutS.of_step s o⟩
              | brk e S=>simp only[hb] at o; exact o
              | ret d S=>simp only[hb] at o; exact o
              | exc e v S=>simp only[hb] at o; exact o
              | stuck=>simp only[hb] at o; exact o
        · exact o.elim⟩
end
end DL
namespace DL
open PySem PySem.Spec PyProof.Rows L2
def ao (env:En):List Nat→En
  | []=>env
  | v::vs=>(ao env vs).set v none
theorem jN (env:En):∀vs:List Nat,(ao env vs).length=env.length
  | []=>rfl
  | v::vs=>by unfold ao; rw[List.length_set,jN env vs]
theorem lu {env:En} {i:Nat} {x:D}:∀ {vs:List Nat},(ao env vs)[i]?=some (some x)→env[i]?=some (some x)∧i∉vs
  | [],h=>⟨h,by simp⟩
  | v::vs,h=>by
    unfold ao at h
    by_cases hi:v=i
    · subst hi
      by_cases hv:v<(ao env vs).length
      · rw[List.getElem?_set_self hv] at h; cases h
      · rw[List.getElem?_eq_none (by simpa using hv)] at h; cases h
    · rw[List.getElem?_set_ne hi] at h
      obtain ⟨h1,h2⟩:=lu h
      exact ⟨h1,by simp only[List.mem_cons,not_or]; exact ⟨fun e=>hi e.symm,h2⟩⟩
theorem RelE.wipe {K:PySem.W.Frag} {mg:Str→Option Value} {μ:Mu} {H:Hp} {env:En} {σ:L2.St} (h:RelE K mg μ H env σ) (vs:List Nat):RelE K mg μ H (ao env vs) (L2.wipe σ vs):=by
  refine ⟨by rw[jN,wipe_length]; exact h.len,fun i d e=>?_⟩
  obtain ⟨h1,h2⟩:=lu e
  obtain ⟨v,h3,h4⟩:=h.at_ i d h1
  exact ⟨v,by rw[wipe_out h2]; exact h3,h4⟩
theorem jO {σ:L2.St} {i:Nat} {v:Option V}:∀ {vs:List Nat},i∈vs→L2.wipe (σ.set i v) vs=L2.wipe σ vs
  | [],h=>by cases h
  | j::vs,h=>by
    unfold L2.wipe
    by_cases hj:j=i
    · subst hj
      by_cases hm:j∈vs
      · rw[jO hm]
      · have:∀(ws:List Nat) (τ:L2.St),j∉ws→L2.wipe (τ.set j v) ws=(L2.wipe τ ws).set j v:=by
          intro ws
          induction ws with
          | nil=>intro τ _; rfl
          | cons k ws ih=>
            intro τ hk
            rw[List.mem_cons,not_or] at hk
            unfold L2.wipe
            rw[ih τ hk.2,List.set_comm _ _ hk.1]
        rw[this vs σ hm,List.set_set]
    · have hm:i∈vs:=by
        rcases List.mem_cons.mp h with e|e
        · exact absurd e.symm hj
        · exact e
      rw[jO hm]
def tGc (X:Cx) (vs:List Nat) (g:MG):TG:=fun v σ H Q=>∃env S μ d,Rl X.K X.mg μ H env σ S∧Rep X.K X.mg μ H d v∧OutO X.K X.mg μ H (fun σ' H'=>L2.wipe σ' vs=L2.wipe σ vs→Q σ' H') (g d env S)
def tGcs (X:Cx) (vs:List Nat) (g:MGs):TGs:=fun us σ H Q=>∃env S μ ds,Rl X.K X.mg μ H env σ S∧RepAll X.K X.mg μ H ds us∧OutO X.K X.mg μ H (fun σ' H'=>L2.wipe σ' vs=L2.wipe σ vs→Q σ' H') (g ds env S)
theorem OutO.mono {K:PySem.W.Frag} {mg:Str→Option Value} {μ:Mu} {H:Hp} {Q Q':L2.St→Hp→Prop} {r:Option (En × Sto)} (o:OutO K mg μ H Q r) (h:∀σ H,Q σ H→Q' σ H):OutO K mg μ H Q' r:=by
  cases r with
  | none=>exact o
  | some p=>exact fun μ' H' σ' s t u=>h _ _ (o μ' H' σ' s t u)
section
variable {X:Cx} {W:WX} {e tg iter elt:Expr} {pos:Pos} {g:MG} {m:ME} {mi:MI} {tc:MT} {vs:List Nat}
theorem ai {i:Nat} {x:Str} (hN:X.N.Nodup) (hi:X.N[i]?=some x) (hx:Loc X.env.scope x) (hv:i∈vs) (hf:X.fn x=true∨X.env.scope.names.lookup x=some .local:=by first|exact .inl rfl|exact .inr rfl|assumption):PG X (.Name x pos) (tGc X vs (gV i)):=
  pZ (pg_name hN hi hx hf) fun v σ H Q ⟨env,S,μ,d,rl,r,o⟩=>o μ H _ .refl (rl.env.set r) rl.sto (jO hv)
theorem lL:PGs X [] (tGcs X vs eW):=oR pgs_nil fun us σ H Q ⟨env,S,μ,ds,rl,r,o⟩=>by
  cases ds with
  | nil=>unfold RepAll at r; exact ⟨r,o μ H σ .refl rl.env rl.sto rfl⟩
  | cons a b=>exact o.elim
theorem dO {es:List Expr} {gs:MGs} (h1:PG X e (tGc X vs g)) (h2:PGs X es (tGcs X vs gs))
    (hs:(assignEach (e::es) X.env).map (·.2)=assign e X.env::(assignEach es X.env).map (·.2):=by rfl):PGs X (e::es) (tGcs X vs (au g gs)):=
  oR (pgs_cons h1 h2 hs) fun us σ H Q ⟨env,S,μ,ds,rl,r,o⟩=>by
    cases ds with
    | nil=>exact o.elim
    | cons d ds=>
      unfold RepAll at r
      obtain ⟨v,q,rfl,r1,r2⟩:=r
      refine ⟨v,q,rfl,env,S,μ,d,rl,r1,?_⟩
      have o:OutO X.K X.mg μ H _ ((g d env S).bind fun p=>gs ds p.1 p.2):=o
      cases hq:g d env S with
      | none=>rw[hq] at o; exact o.elim
      | some p=>
        rw[hq] at o
        exact fun μ' H' σ' s t u w=>⟨p.1,p.2,μ',ds,⟨t,u⟩,RepAll.step s _ _ r2,(OutO.of_step s o).mono fun σ2 H2 f w2=>f (w2.trans w)⟩
theorem oV {es:List Expr} {k:Nat} {n:Nat} {gs:MGs} (hc:X.calm=true) (h:PGs X es (tGcs X vs gs))
    (hn:(assignEach es X.env).length=n:=by rfl) (hst:(assignEach es X.env).findIdx? (·.1)=none:=by rfl):PG X (.Tuple es k pos) (tGc X vs (dg n gs)):=
  pZ (pg_tup hc h hn hst) fun v σ H Q ⟨env,S,μ,d,rl,r,o⟩=>by
    unfold dg at o
    split at o
    · rename_i ds ev
      by_cases hl:ds.length=n
      · simp only[hl,if_true] at o
        have w:=r.wv.vt
        rw[ev] at w
        obtain ⟨a,vs,rfl,h1,h2,_⟩:=w
        exact ⟨a,vs,rfl,.inl h1,by rw[←h2.length]; exact hl,env,S,μ,ds,rl,h2,o⟩
      · simp only[hl,if_false] at o; exact o.elim
    · exact o.elim
def Res.bindS {α β:Type}:Res α→(α→Sto→Res β)→Res β
  | .ok a S,f=>f a S
  | _,_=>.stuck
theorem Out.bindS {α β α' β':Type} {K:PySem.W.Frag} {mg:Str→Option Value} {μ:Mu} {H:Hp} {W W0:WX} {σ σ':L2.St} {R:Mu→Hp→α→β→Prop} {R':Mu→Hp→α'→β'→Prop} {Q:β'→Hp→Prop} {r:Res α} {f:α→Sto→Res α'} (o:Out K mg W σ μ H R' Q (r.bindS f)) :
    Out K mg W0 σ' μ H R (fun b H1=>∃μ1 S1 a,Step μ H μ1 H1∧RelS K mg μ1 H1 S1∧R μ1 H1 a b∧Out K mg W σ μ1 H1 R' Q (f a S1)) r:=by
  cases r with
  | ok a S=>exact fun μ' H' b s t u=>⟨μ',S,a,s,t,u,Out.of_step s o⟩
  | exc e S=>exact o.elim
  | stuck=>exact o
/-- one turn: the items made so far,behind it -/
def fC (g:MG) (tc:MT) (m:ME) (w:En) (d:D) (acc:List D) (S:Sto):Res (List D):=match g d w S with
  | none=>.stuck
  | some p=>(tc p.1 p.2).bindS fun c S2=>if c=true then (m p.1 S2).bindS fun v S3=>if acc.length<1000000 then .ok (acc++[v]) S3 else .stuck else .ok acc S2
def dE (g:MG) (tc:MT) (m:ME) (w:En):List D→List D→Sto→Res (List D)
  | [],acc,S=>.ok acc S
  | d::ds,acc,S=>(fC g tc m w d acc S).bindS fun acc S=>dE g tc m w ds acc S
def eX (g:MG) (tc:MT) (m:ME) (w:En) (l:Nat):Nat→Nat→List D→Sto→Res (List D)
  | 0,_,_,_=>.stuck
  | n+1,i,acc,S=>match S[l]? with
    | some (.lst xs)=>match xs[i]? with
      | none=>.ok acc S
      | some d=>(fC g tc m w d acc S).bindS fun acc S=>eX g tc m w l n (i+1) acc S
    | _=>.stuck
def g7 (g:MG) (tc:MT) (m:ME) (w:En) (l:Nat):Nat→Nat→List D→Sto→Res (List D)
  | 0,_,_,_=>.stuck
  | n+1,i,acc,S=>match S[l]? with
    | some (.lst xs)=>match xs[i]? with
      | none=>.ok acc S
      | some d=>(fC g tc m w (.tup [.int (i:Nat),d]) acc S).bindS fun acc S=>g7 g tc m w l n (i+1) acc S
    | _=>.stuck
def fy (mi:MI) (g:MG) (tc:MT) (m:ME) (vs:List Nat):MA:=fun env S=>(mi env S).bind fun it S=>match it with
  | .items ds=>dE g tc m (ao env vs) ds [] S
  | .live l=>eX g tc m (ao env vs) l (cy S l+1) 0 [] S
  | .liveE l=>g7 g tc m (ao env vs) l (cy S l+1) 0 [] S
def bv (mi:MI) (g:MG) (tc:MT) (m:ME) (vs:List Nat):ME:=fun env S=>(fy mi g tc m vs env S).bind fun ds S=>.ok (.lst ds) S
def lw (mi:MI) (g:MG) (tc:MT) (m:ME) (vs:List Nat):ME:=fun env S=>(fy mi g tc m vs env S).bind fun ds S=>.ok (.loc S.length) (S++[.lst ds])
abbrev W0:WX:=fun _ _ _ _=>False
def c5:MT:=fun _ S=>.ok true S
def oW (X:Cx) (ifs:List Expr) (tc:MT):Prop:=PTs X ifs (tT X W0 tc)
theorem bz:oW X [] c5:=⟨fun pins s σ H Q I ⟨env,S,μ,rl,o⟩=>pts_nil.run pins s σ H Q I (o μ H true .refl rl.sto rfl)⟩
theorem dP {c:Expr} (h:PT X c (tT X W0 tc)):oW X [c] tc:=pts_one h
/-- what a comprehension gives -/
def RL (K:PySem.W.Frag) (mg:Str→Option Value) (μ:Mu) (H:Hp) (ds:List D) (v:V):Prop:=∃p us,v=.ref p∧H p=some (.lst us)∧p∉μ∧RepAll K mg μ H ds us
theorem e7:∀(ws vs:List Nat) (τ:L2.St),(∀i∈ws,i∈vs)→L2.wipe (L2.wipe τ ws) vs=L2.wipe τ vs
  | [],vs,τ,_=>rfl
  | k::ws,vs,τ,hk=>by
    show L2.wipe ((L2.wipe τ ws).set k none) vs=_
    rw[jO (hk k List.mem_cons_self)]
    exact e7 ws vs τ fun i hi=>hk i (List.mem_cons_of_mem _ hi)
/-- what stays,but what is being made at p -/
structure StP (p:Addr) (μ:Mu) (H:Hp) (μ':Mu) (H':Hp):Prop extends Stp μ H μ' H' where
  hid:μ'.h=μ.h
  hk:∀a u,a≠p→a∈μ.h→H a=some u→NTb u→H' a=some u
theorem StP.of {p:Addr} {μ μ':Mu} {H H':Hp} (s:Step μ H μ' H'):StP p μ H μ' H':=⟨s.toStp,s.hid,fun a u _ h e t=>s.hk a u h e t⟩
theorem StP.trans {p:Addr} {μ μ' μ2:Mu} {H H' H2:Hp} (s:StP p μ H μ' H') (t:StP p μ' H' μ2 H2):StP p μ H μ2 H2:=⟨s.toStp.trans t.toStp,t.hid.trans s.hid,fun a u n h e nt=>t.hk a u n (by rw[s.hid]; exact h) (s.hk a u n h e nt) nt⟩
theorem StP.write {p:Addr} {μ:Mu} {H:Hp} {o:HO} (h:p∈μ.h) (nf:NF H p):StP p μ H μ (upd H p o):=⟨.write_hid h nf,rfl,fun a u n _ e _=>by rw[upd_ne n]; exact e⟩
/-- a turn's reading -/
theorem lM {W:WX} {vs:List Nat} {σ σo:L2.St} {w:En} {p:Addr} {Q:V→Hp→Prop} {μ1 μ2:Mu} {H1 H2:Hp} {S2:Sto} {d:D} {x:V} {acc:List D} {us:List V} {N:Hp→Prop} {f:List D→Sto→Res (List D)}
    (re:RelE X.K X.mg μ2 H2 w (L2.wipe σ vs)) (rs:RelS X.K X.mg μ2 H2 S2) (hp:H2 p=some (.lst us)) (np:p∈μ2.h) (ra:RepAll X.K X.mg μ2 H2 acc us) (rx:Rep X.K X.mg μ2 H2 d x)
    (o:Out X.K X.mg W σo μ1 H1 (RL X.K X.mg) Q ((fC g tc m w d acc S2).bindS f))
    (hN:∀μ3 H3 S3 acc' us',StP p μ2 H2 μ3 H3→RelS X.K X.mg μ3 H3 S3→H3 p=some (.lst us')→RepAll X.K X.mg μ3 H3 acc' us'→Out X.K X.mg W σo μ1 H1 (RL X.K X.mg) Q (f acc' S3)→N H3) :
    tGc X vs g x (L2.wipe σ vs) H2 fun σ2 H3=>L2.wipe σ2 vs=L2.wipe σ vs∧tT X W0 tc σ2 H3 fun b H4=>if b=true then tE X W0 m σ2 H4 fun y H5=>∃acc,H5 p=some (.lst acc)∧acc.length<sizeLine∧N (upd H5 p (.lst (acc++[y]))) else N H4:=by
  refine ⟨w,S2,μ2,d,⟨re,rs⟩,rx,?_⟩
  unfold fC at o
  cases hg:g d w S2 with
  | none=>simp only[hg,Res.bindS] at o; exact o.elim
  | some q=>
    obtain ⟨e,Se⟩:=q
    simp only[hg] at o
    intro μ3 H3 σ3 st3 re3 rs3 hw
    refine ⟨hw.trans (e7 vs vs σ fun i hi=>hi),e,Se,μ3,⟨re3,rs3⟩,?_⟩
    have hp3:H3 p=some (.lst us):=st3.hk _ _ np hp
    have np3:p∈μ3.h:=by rw[st3.hid]; exact np
    have ra3:=RepAll.step st3 _ _ ra
    cases htc:tc e Se with
    | exc a b=>simp only[htc,Res.bindS] at o; exact o.elim
    | stuck=>simp only[htc,Res.bindS] at o; exact o.elim
    | ok c S4=>
      simp only[htc,Res.bindS] at o
      intro μ4 H4 b st4 rs4 hb
      subst hb
      have hp4:=st4.hk _ _ np3 hp3
      have np4:p∈μ4.h:=by rw[st4.hid]; exact np3
      have ra4:=RepAll.step st4 _ _ ra3
      cases b with
      | false=>
        simp only[Bool.false_eq_true,if_false] at o ⊢
        exact hN μ4 H4 S4 acc us (.of (st3.trans st4)) rs4 hp4 ra4 o
      | true=>
        simp only[if_true] at o ⊢
        refine ⟨e,S4,μ4,⟨re3.step st4,rs4⟩,?_⟩
        cases hm:m e S4 with
        | exc a b=>simp only[hm,Res.bindS] at o; exact o.elim
        | stuck=>simp only[hm,Res.bindS] at o; exact o.elim
        | ok v S5=>
          simp only[hm,Res.bindS] at o
          intro μ5 H5 y st5 rs5 ry
          have hp5:=st5.hk _ _ np4 hp4
          have np5:p∈μ5.h:=by rw[st5.hid]; exact np4
          have ra5:=RepAll.step st5 _ _ ra4
          by_cases hl:acc.length<1000000
          · simp only[hl,if_true] at o
            have sw:StP p μ5 H5 μ5 (upd H5 p (.lst (us++[y]))):=.write np5 (.of hp5)
            refine ⟨us,hp5,?_,?_⟩
            · rw[←ra.length,sizeLine_eq]; omega
            · exact hN μ5 _ S5 (acc++[v]) (us++[y]) ((StP.of ((st3.trans st4).trans st5)).trans sw) (rs5.write_hid np5) upd_same
                (RepAll.stp sw.toStp _ _ (ra5.append (.cons ry .nil))) o
          · simp only[hl,if_false] at o; exact o.elim
theorem vL {own:List (Str × Nat)} {σ:L2.St} {H:Hp} {Q:VK} {W:WX} (h:tM X (RL X.K X.mg) W (fy mi g tc m (own.map (·.2))) σ H Q) :
    tLc (tI X W mi) (tGc X (own.map (·.2)) g) (tT X W0 tc) (tE X W0 m) (own.map (·.2)) σ H Q:=by
  obtain ⟨env,S,μ,rl,o⟩:=h
  generalize own.map (·.2)=vs at *
  refine ⟨env,S,μ,rl,(Out.bind o).mono fun J H1 ⟨μ1,S1,it,st,rs,rd,o1⟩ p hp=>?_⟩
  have rw1:RelE X.K X.mg μ1 H1 (ao env vs) (L2.wipe σ vs):=(rl.env.step st).wipe vs
  generalize ao env vs=w at *
  -- where it begins
  have sh:Stp μ1 H1 (μ1.hide p) (upd H1 p (.lst [])):=.new_hid hp
  have fin:∀(μ2:Mu) (H2:Hp) (S2:Sto) (acc:List D) (us:List V),StP p (μ1.hide p) (upd H1 p (.lst [])) μ2 H2→RelS X.K X.mg μ2 H2 S2→H2 p=some (.lst us)→RepAll X.K X.mg μ2 H2 acc us→Out X.K X.mg W σ μ1 H1 (RL X.K X.mg) Q (.ok acc S2)→Q (.ref p) H2:=by
    intro μ2 H2 S2 acc us sp rs2 hp2 ra o
    have sub:∀a∈μ1.h,a∈μ2.h:=fun a ha=>by rw[sp.hid]; exact List.mem_cons_of_mem _ ha
    have su:Stp μ2 H2 ⟨μ2.l,μ1.h⟩ H2:=.unhide sub
    have np:p∉(⟨μ2.l,μ1.h⟩:Mu):=fun z=>z.elim (fun z=>rs2.dis p z (by rw[sp.hid]; exact List.mem_cons_self)) (rs.notinH hp)
    exact o ⟨μ2.l,μ1.h⟩ H2 (.ref p) ⟨(sh.trans sp.toStp).trans su,rfl,fun a u ha e nt=>sp.hk a u (ne_of_none e hp) (List.mem_cons_of_mem _ ha) (by rw[upd_ne (ne_of_none e hp)]; exact e) nt⟩ (rs2.unhide sub)
      ⟨p,us,rfl,hp2,np,RepAll.stp su _ _ ra⟩
  have npm:∀ {μ2:Mu} {H2:Hp},StP p (μ1.hide p) (upd H1 p (.lst [])) μ2 H2→p∈μ2.h:=fun sp=>by rw[sp.hid]; exact List.mem_cons_self
  have st0:StP p (μ1.hide p) (upd H1 p (.lst [])) (μ1.hide p) (upd H1 p (.lst [])):=.of .refl
  cases it with
  | items ds=>
    have rd:dM X.K X.mg μ1 H1 ds J:=rd
    refine ⟨fun i n H=>n+i=ds.length∧∃μ S acc us,StP p (μ1.hide p) (upd H1 p (.lst [])) μ H∧RelS X.K X.mg μ H S∧H p=some (.lst us)∧RepAll X.K X.mg μ H acc us∧Out X.K X.mg W σ μ1 H1 (RL X.K X.mg) Q (dE g tc m w (ds.drop i) acc S),
      ⟨ds.length,rfl,_,S1,[],[],st0,rs.hide hp,upd_same,.nil,o1⟩,?_⟩
    rintro i n H ⟨hn,μ,S,acc,us,sp,rs,hpp,ra,o⟩
    have sb:Stp μ1 H1 μ H:=sh.trans sp.toStp
    by_cases hi:i<ds.length
    · have ed:ds.drop i=ds[i]::ds.drop (i+1):=List.drop_eq_getElem_cons hi
      rw[ed] at o
      unfold dE at o
      refine .inr ⟨rd.goes i μ H hi sb,fun H=>∃μ S acc us,StP p (μ1.hide p) (upd H1 p (.lst [])) μ H∧RelS X.K X.mg μ H S∧H p=some (.lst us)∧RepAll X.K X.mg μ H acc us∧Out X.K X.mg W σ μ1 H1 (RL X.K X.mg) Q (dE g tc m w (ds.drop (i+1)) acc S),fun H' w=>⟨n - 1,by omega,by omega,w⟩,fun x H' y=>?_⟩
      obtain ⟨sm,rx⟩:=rd.yields i _ μ H S x H' (List.getElem?_eq_getElem hi) sb rs y
      have sx:Step μ H μ H':=.of_sm sm
      have spx:=sp.trans (StP.of sx)
      refine lM ((rw1.stp sh).stp spx.toStp) (rs.sm sm) (sm _ _ hpp) (npm spx) (RepAll.step sx _ _ ra) rx o fun μ3 H3 S3 acc' us' s3 rs3 hp3 ra3 o3=>⟨μ3,S3,acc',us',spx.trans s3,rs3,hp3,ra3,o3⟩
    · have e:i=ds.length:=by omega
      subst e
      rw[List.drop_length] at o
      exact .inl ⟨rd.stops μ H sb,fin μ H S acc us sp rs hpp ra o⟩
  | live l=>
    obtain ⟨a,ha,rfl⟩:=rd
    refine ⟨fun i n H=>∃μ S acc us,StP p (μ1.hide p) (upd H1 p (.lst [])) μ H∧RelS X.K X.mg μ H S∧H p=some (.lst us)∧RepAll X.K X.mg μ H acc us∧Out X.K X.mg W σ μ1 H1 (RL X.K X.mg) Q (eX g tc m w l n i acc S),
      ⟨_,_,S1,[],[],st0,rs.hide hp,upd_same,.nil,o1⟩,?_⟩
    rintro i n H ⟨μ,S,acc,us,sp,rs,hpp,ra,o⟩
    have sb:Stp μ1 H1 μ H:=sh.trans sp.toStp
    cases n with
    | zero=>exact o.elim
    | succ n=>
      unfold eX at o
      split at o
      · rename_i xs es
        obtain ⟨a',h1,vs',h2,h3⟩:=rs.at_ _ _ es
        rw[sb.get ha] at h1; cases h1
        split at o
        · rename_i hx
          refine .inl ⟨⟨vs',.of h2,?_⟩,fin μ H S acc us sp rs hpp ra o⟩
          rw[←h3.length]
          exact List.getElem?_eq_none_iff.mp hx
        · rename_i d hx
          obtain ⟨v,hv,rv⟩:=h3.get hx
          refine .inr ⟨⟨vs',v,.of h2,hv⟩,fun H=>∃μ S acc us,StP p (μ1.hide p) (upd H1 p (.lst [])) μ H∧RelS X.K X.mg μ H S∧H p=some (.lst us)∧RepAll X.K X.mg μ H acc us∧Out X.K X.mg W σ μ1 H1 (RL X.K X.mg) Q (eX g tc m w l n (i+1) acc S),fun H' w=>⟨n,Nat.lt_succ_self n,w⟩,fun x H' y=>?_⟩
          obtain ⟨rfl,y⟩:=y
          have q:=y vs' (.of h2)
          rw[hv] at q; cases q
          exact lM ((rw1.stp sh).stp sp.toStp) rs hpp (npm sp) ra rv o fun μ3 H3 S3 acc' us' s3 rs3 hp3 ra3 o3=>⟨μ3,S3,acc',us',sp.trans s3,rs3,hp3,ra3,o3⟩
      · exact o.elim
  | liveE l=>
    obtain ⟨a,ha,rfl⟩:=rd
    refine ⟨fun i n H=>∃μ S acc us,StP p (μ1.hide p) (upd H1 p (.lst [])) μ H∧RelS X.K X.mg μ H S∧H p=some (.lst us)∧RepAll X.K X.mg μ H acc us∧Out X.K X.mg W σ μ1 H1 (RL X.K X.mg) Q (g7 g tc m w l n i acc S),
      ⟨_,_,S1,[],[],st0,rs.hide hp,upd_same,.nil,o1⟩,?_⟩
    rintro i n H ⟨μ,S,acc,us,sp,rs,hpp,ra,o⟩
    have sb:Stp μ1 H1 μ H:=sh.trans sp.toStp
    cases n with
    | zero=>exact o.elim
    | succ n=>
      unfold g7 at o
      split at o
      · rename_i xs es
        obtain ⟨a',h1,vs',h2,h3⟩:=rs.at_ _ _ es
        rw[sb.get ha] at h1; cases h1
        split at o
        · rename_i hx
          refine .inl ⟨⟨vs',.of h2,?_⟩,fin μ H S acc us sp rs hpp ra o⟩
          rw[←h3.length]
          exact List.getElem?_eq_none_iff.mp hx
        · rename_i d hx
          obtain ⟨v,hv,rv⟩:=h3.get hx
          refine .inr ⟨⟨vs',v,.of h2,hv⟩,fun H=>∃μ S acc us,StP p (μ1.hide p) (upd H1 p (.lst [])) μ H∧RelS X.K X.mg μ H S∧H p=some (.lst us)∧RepAll X.K X.mg μ H acc us∧Out X.K X.mg W σ μ1 H1 (RL X.K X.mg) Q (g7 g tc m w l n (i+1) acc S),fun H' w=>⟨n,Nat.lt_succ_self n,w⟩,fun x H' y=>?_⟩
          obtain ⟨T,z,rfl,hT,rfl,y⟩:=y
          have q:=y vs' (.of h2)
          rw[hv] at q; cases q
          have sm:Sm H (upd H T (.tup [.int (i:Int),v])):=.upd hT
          have sx:Step μ H μ (upd H T (.tup [.int (i:Int),v])):=.of_sm sm
          have rx:Rep X.K X.mg μ (upd H T (.tup [.int (i:Int),v])) (.tup [.int (i:Nat),d]) (.ref T):=bG rs hT (.cons (bB _) (.cons rv .nil))
          have spx:=sp.trans (StP.of sx)
          exact lM ((rw1.stp sh).stp spx.toStp) (rs.sm sm) (sm _ _ hpp) (npm spx) (RepAll.step sx _ _ ra) rx o fun μ3 H3 S3 acc' us' s3 rs3 hp3 ra3 o3=>⟨μ3,S3,acc',us',spx.trans s3,rs3,hp3,ra3,o3⟩
      · exact o.elim
theorem vM {K:PySem.W.Frag} {mg:Str→Option Value} {μ:Mu} {H:Hp} {ds:List D} {v:V} (r:RL K mg μ H ds v):Rep K mg μ H (.lst ds) v:=by
  obtain ⟨p,us,e,h1,n,h2⟩:=r
  unfold Rep
  exact ⟨p,us,e,h1,n,h2⟩
/-- frozen -/
theorem nM {σ:L2.St} {H:Hp} {Q:VK} {W:WX} (h:tE X W (bv mi g tc m vs) σ H Q):tM X (RL X.K X.mg) W (fy mi g tc m vs) σ H Q:=by
  obtain ⟨env,S,μ,rl,o⟩:=h
  refine ⟨env,S,μ,rl,(Out.bind (R:=RL X.K X.mg) o).mono fun v H1 ⟨μ1,S1,ds,st,rs,r,o1⟩=>o1 μ1 H1 v .refl rs (vM r)⟩
section
variable {scope:Scope} {own:List (Str × Nat)} {W:WX} {ifs:List Expr}
theorem bi (hc:X.calm=true) (hN:X.N.Nodup) (hi:PI X tg iter (tI X W mi)) (ok:BlkOk X.N X.env.scope scope own)
    (hg:∀(s:Shared) (H:Hp) (C:Addr) (cl:List (Str × Addr)) (fp:List Addr),PG (X.blk s H scope (compEnvC scope cl C X.env) fp) tg (tGc (X.blk s H scope (compEnvC scope cl C X.env) fp) (own.map (·.2)) g))
    (ht:∀(s:Shared) (H:Hp) (C:Addr) (cl:List (Str × Addr)) (fp:List Addr),oW (X.blk s H scope (compEnvC scope cl C X.env) fp) ifs tc)
    (he:∀(s:Shared) (H:Hp) (C:Addr) (cl:List (Str × Addr)) (fp:List Addr),PE (X.blk s H scope (compEnvC scope cl C X.env) fp) elt (tE (X.blk s H scope (compEnvC scope cl C X.env) fp) W0 m)) (hs:∀x,foldedSetIterable iter X.env x=pure x:=by intro _; rfl) :
    PE X (.ListComp elt [⟨tg,iter,ifs,0⟩] scope pos) (tE X W (bv mi g tc m (own.map (·.2)))):=
  bt (pe_lc (g:=tGc X (own.map Prod.snd) g) (tt:=tT X W0 tc) (te:=tE X W0 m) hc hN hi ok hg ht he hs) fun σ H Q h=>vL (nM h)
theorem ir {i:Nat} {y:Str} {py spos:Pos} (hc:X.calm=true) (hN:X.N.Nodup) (hy:X.N[i]?=some y) (hyl:X.env.scope.names.lookup y=some .local)
    (hsw:swapsWith (.ListComp elt [⟨tg,iter,ifs,0⟩] scope pos) (some (.Name y py)) spos.line X.env=pure true) (hi:PI X tg iter (tI X W mi)) (ok:BlkOk X.N X.env.scope scope own)
    (hg:∀(s:Shared) (H:Hp) (C:Addr) (cl:List (Str × Addr)) (fp:List Addr),PG (X.blk s H scope (compEnvC scope cl C X.env) fp) tg (tGc (X.blk s H scope (compEnvC scope cl C X.env) fp) (own.map (·.2)) g))
    (ht:∀(s:Shared) (H:Hp) (C:Addr) (cl:List (Str × Addr)) (fp:List Addr),oW (X.blk s H scope (compEnvC scope cl C X.env) fp) ifs tc)
    (he:∀(s:Shared) (H:Hp) (C:Addr) (cl:List (Str × Addr)) (fp:List Addr),PE (X.blk s H scope (compEnvC scope cl C X.env) fp) elt (tE (X.blk s H scope (compEnvC scope cl C X.env) fp) W0 m)) (hs:∀x,foldedSetIterable iter X.env x=pure x:=by intro _; rfl) :
    PS X (.Assign [.Name y py] (.ListComp elt [⟨tg,iter,ifs,0⟩] scope pos) spos) (tS X W (bw i (bv mi g tc m (own.map (·.2))))):=
  fB (ps_setLc (g:=tGc X (own.map Prod.snd) g) (tt:=tT X W0 tc) (te:=tE X W0 m) hc hN hy hyl hsw hi ok hg ht he hs) fun D σ H ⟨env,S,μ,rl,o⟩=>vL (nM ⟨env,S,μ,rl,(OutS.rs rl.env o).mono fun x H1 ⟨μ1,S1,d,st,rs,r,o1⟩=>o1 μ1 H1 _ .refl ((rl.env.step st).set r) rs⟩)
end
end
end DL
set_option maxHeartbeats 4000000
namespace DL
open PySem PySem.Spec PyProof.Rows L2
abbrev Takes (X:Cx) (W:WX):Prop:=L2N.Takes X W
theorem passAt {X:Cx} {W:WX} (tk:Takes X W) (σ:L2.St):PassesAt (L2N.CX X.prog X.w) X σ (WE W σ):=L2N.passAt tk σ
theorem takes_of {X:Cx} {E:XK} (hs:X.stack=X.env::X.outer) (hf:X.env.frame=some X.env.locals) (hex:X.ex=[]) {E₁:Value→Shared→Prop}
    (hx:X.xe=fun e s'=>wpAny (model X.prog X.w) X.A (leaving X.env e) (fun _ s''=>L2N.CX X.prog X.w X.outer X.H_0 X.s_0 E e s'') E₁ s'):Takes X fun cls d _ H=>E cls d H:=L2N.takes_of hs hf hex hx
/-- what is a wish of L2's is one of these -/
theorem vN {X:Cx} {W:WX} (tk:L2.Takes X W):Takes X W:=fun u s' ⟨a,B,sI,pins,σ,H,cls,d,e,I,nb,up,sky,na,os,ag,w⟩=>
  tk u s' ⟨a,B,sI,pins,σ,H,cls,d,e,I,nb,up,(by
    rcases sky with ⟨h1,h2,h3,oe,vs,h4,z,h5⟩|⟨h1,h2,h3,oe,vs,T,oT,ts,h4,z,h5⟩|⟨h1,h2,h3,oe,vs,T,oT,ts,h4,z,h5⟩
    · exact .inl ⟨h1,h2,h3,oe,vs,h4,⟨z.1,z.2.1⟩,h5⟩
    · exact .inr (.inl ⟨h1,h2,h3,oe,vs,T,oT,ts,h4,⟨z.1,z.2.1⟩,h5⟩)
    · exact .inr (.inr ⟨h1,h2,h3,oe,vs,T,oT,ts,h4,⟨z.1,z.2.1⟩,h5⟩)),na,os,ag,w⟩
theorem takes0 {X:Cx}:Takes X (fun _ _ _ _=>False):=vN LamX.takes0
section
variable {X:Cx} {CX:CXT} {x:Str} {e:Expr} {es:List Expr} {ta:TA} {p pos:Pos} {C fI:Addr} {k:Nat} {fd:FuncData} {ps:List Str} {sp:Sp}
/-- an error whose class has an own __init__,its context None -/
theorem vO (T:OexC X.K C) (iC:PySem.W.findIn X.K (.ref C) "__init__"=some (some (.ref fI))) (tI:PySem.W.typeIn X.K (.ref fI)=some (.type "function")) (F1:FnOk X.prog X.w X.K X.mg X.base CX k fI fd ps sp) (hr:Room (k+1) X.A) (hb:L2.Binds X.K fd ps [])
    (hx:Passes CX X fun _ _ _=>False) (hg:Gl X x) (hm:X.mg x=some (.ref C)) (ha:PA X (e::es) ta) (hdb:(x == ("__debug__":Str))=false) (he:starEach (e::es) X.env=(false,eval e X.env)::starEach es X.env) (hpl:(backTo pos (starEach es X.env)).any (·.1)=false) :
    L2N.PMk X (.Call (.Name x p) (e::es) [] pos) (tMkO C sp [] ta):=by
  intro pins s σ H Q I h
  obtain ⟨nm,q,N,bs,bm,sn,sub,ab,col,dd,k0,k1,k2,k3,k5,hC,hbm⟩:=T.cls
  refine wpAny_Call_Name_kw (ld_glob I hg hm (PySem.W.callWith_K I.ok.mod.kin T.kC (thn (ha.run pos pins s σ H _ I h) fun us s1 ⟨vs,H1,I1,r1,hz,q1⟩=>⟨I1.kIn,?_⟩) he hpl) hdb)
  obtain ⟨hp,g,dr,tk,os⟩:=s1
  have hsz:=Nat.le_succ hp.objs.size
  have hn:=I1.hok.fresh hsz
  have hq:=q1 (hp.objs.size+1) hn
  rw[List.append_nil] at hq
  have kk:∀b o,hp.get? b=some o→((hp.push (PySem.W.kdv_tup us)).push (HandSPX.excO C hp.objs.size)).get? b=some o:=fun b o e=>Heap.get?_push_of_some (HandSPX.excO C hp.objs.size) (Heap.get?_push_of_some (PySem.W.kdv_tup us) e)
  have hget:((hp.push (PySem.W.kdv_tup us)).push (HandSPX.excO C hp.objs.size)).get? (hp.objs.size+1)=some (HandSPX.excO C hp.objs.size):=Heap.get?_push_at (by rw[Heap.size_push]) rfl
  have I2:=I1.laid (t':=tk) kk hsz (exo_ok hget)
  have r2:Vals (.ref (hp.objs.size+1)::vs) (.ref (hp.objs.size+1)::us):=.cons rfl r1
  have hl:(Value.ref (hp.objs.size+1)::us).length=ps.length:=by
    have:=F1.len _ _ _ _ hq
    rw[←this]
    exact (Vals.length r2).symm
  have hbt:BindsTo ({ heap:=(hp.push (PySem.W.kdv_tup us)).push (HandSPX.excO C hp.objs.size),gens:=g,drawn:=dr,toks:=tk,os:=os }:Shared) fd { pos:=.ref (hp.objs.size+1)::us } (ps.zip (.ref (hp.objs.size+1)::us)):=by
    have:=hb { heap:=(hp.push (PySem.W.kdv_tup us)).push (HandSPX.excO C hp.objs.size),gens:=g,drawn:=dr,toks:=tk,os:=os } (.ref (hp.objs.size+1)::us) I2.kIn (by rw[List.append_nil]; exact hl)
    rw[List.append_nil] at this
    exact this
  have hus:us.length≤sizeLine:=by
    rw[←Paired.length r1,sizeLine_eq]
    omega
  refine wpAny_call (HandSPX.call_own PySem.F.excBase_ValueError (fun Y=>HandSPX.refsVE_contains Y bm hbm) (I1.kIn C _ hC) (PySem.W.looks_findIn I1.kIn iC) (fun self=>PySem.W.bind_fn I1.kIn self tI) hus
    (codeAny_mono (F1.run _ X.stack _ _ { pos:=.ref (hp.objs.size+1)::us } (.ref (hp.objs.size+1)::us) (.ref (hp.objs.size+1)::vs) _ _ (hr.make C us []) (I2.env0.make C us []) hbt r2 hq) fun r s' hq'=>?_))
  cases r with
  | error er=>exact hx pins σ _ _ er s' I2 hq'
  | ok fl=>
    cases fl with
    | next=>exact False.elim hq'
    | brk=>exact False.elim hq'
    | cont=>exact False.elim hq'
    | ret v=>
      obtain ⟨v2,H2,os2,bare2,un2,hok2,rv,rfl,d,fs,ea,ed,hd1,q2⟩:=hq'
      obtain ⟨h2,g2,d2,t2,os'⟩:=s'
      refine ⟨rv,?_⟩
      obtain ⟨t0,G,IG,kG,nG,hG,na⟩:=mk_end0 (d1:=dr) (t1:=tk) (d2:=d2) (t2:=t2) I1 hsz kk un2 hok2 os2 bare2 ea ed hd1
      exact ⟨_,_,_,_,_,_,_,rfl,IG,kG,nG,hG,⟨rfl,rfl,fun vs e=>by cases e; rfl⟩,rfl,rfl,na,rfl,bare2,raises_own T.exC T.tyC,q2⟩
end
end DL
namespace DL
open PySem PySem.Spec PyProof.Rows L2
abbrev MF:=List D→Sto→Res D
def chk (n:Nat) (m:MF):MF:=fun ds S=>if ds.length=n then m ds S else .stuck
/-- what a def promises -/
def spD (K:PySem.W.Frag) (mg:Str→Option Value) (n:Nat) (m:MF):Sp:=fun vs H Q E=>∃ds S μ,RelS K mg μ H S∧RepAll K mg μ H ds vs∧Out K mg (fun c d _ H'=>E c d H') [] μ H (fun μ H a b=>Rep K mg μ H a b) Q (chk n m ds S)
theorem xN {K:PySem.W.Frag} {mg:Str→Option Value} {n:Nat} {m:MF} {vs:List V} {H:Hp} {Q:VK} {E:XK} (h:spD K mg n m vs H Q E):vs.length=n:=by
  obtain ⟨ds,S,μ,rs,ra,o⟩:=h
  unfold chk at o
  split at o
  · rename_i e; rw[←ra.length]; exact e
  · exact o.elim
structure FnM (P:Program) (w:World) (K:PySem.W.Frag) (mg:Str→Option Value) (base:Heap) (k:Nat) (f:Addr) (fd:FuncData) (ps:List Str) (m:MF):Prop where
  ok:FnOk P w K mg base (L2N.CX P w) k f fd ps (spD K mg ps.length m)
  kp:PySem.W.keepIn K (.ref f)=true
  b:Binds K fd ps []
/-- a body,run -/
def ay (n:Nat) (m:MS):MF:=fun ds S=>match m (ds.map some++List.replicate n none) S with
  | .next _ S=>.ok .none S
  | .ret d S=>.ok d S
  | .exc e _ S=>.exc e S
  | _=>.stuck
theorem rZ {K:PySem.W.Frag} {mg:Str→Option Value} {μ:Mu} {H:Hp} {N:List Str}:∀ {ds:List D} {vs:List V},RepAll K mg μ H ds vs→RelE K mg μ H (ds.map some++List.replicate (N.length - ds.length) none) (L2.start N vs):=fun {ds vs} r=>by
  unfold L2.start
  have hl:=r.length
  refine ⟨by simp[hl],fun i d e=>?_⟩
  by_cases hi:i<ds.length
  · rw[List.getElem?_append_left (by simpa using hi),List.getElem?_map] at e
    obtain ⟨d',h1,h2⟩:=Option.map_eq_some_iff.mp e
    cases h2
    obtain ⟨v,h3,h4⟩:=r.get h1
    exact ⟨v,by rw[List.getElem?_append_left (by rw[List.length_map,←hl]; exact hi),List.getElem?_map,h3]; rfl,h4⟩
  · rw[List.getElem?_append_right (by simpa using Nat.le_of_not_lt hi)] at e
    have:=List.getElem?_replicate (a:=(none:Option D)) (n:=N.length - ds.length) (i:=i - (ds.map some).length)
    rw[this] at e
    split at e<;>cases e
def aR (n:Nat) (m:MF) (r:MA):ME:=fun env S=>(r env S).bind fun ds S=>chk n m ds S
theorem lN {K:PySem.W.Frag} {mg:Str→Option Value} {μ:Mu} {H:Hp} {α β:Type} {W:WX} {R:Mu→Hp→α→β→Prop} {Q:β→Hp→Prop} {σ:L2.St} {r:Res α} (o:Out K mg W σ μ H R Q r):Out K mg (fun c d _ H'=>WE W σ c d H') [] μ H R Q r:=by
  cases r with
  | ok a S=>exact o
  | exc e S=>exact o
  | stuck=>exact o
section
variable {X:Cx} {W:WX} {k:Nat} {f C:Addr} {fd:FuncData} {ps:List Str} {m mi:MF} {x nm cn:Str} {p pos apos:Pos} {e o:Expr} {es:List Expr} {r:MA} {ma mv:ME}
theorem t_call {σ:L2.St} {H:Hp} {Q:VK} (h:tE X W (aR ps.length m r) σ H Q):tCallSD (spD X.K X.mg ps.length m) [] (WE W) (tAs X W r) σ H Q:=by
  obtain ⟨env,S,μ,rl,o⟩:=h
  exact ⟨env,S,μ,rl,(Out.bind o).mono fun vs H1 ⟨μ1,S1,ds,st,rs,rd,o1⟩=>⟨ds,S1,μ1,rs,by rw[List.append_nil]; exact rd,lN o1⟩⟩
theorem xO (F:FnM X.prog X.w X.K X.mg X.base k f fd ps m) (hr:Room k X.A) (hg:Gl X x) (hm:X.mg x=some (.ref f)) (tk:Takes X W)
    (ha:PA X (e::es) (tAs X W r)) (hdb:(x == ("__debug__":Str))=false:=by decide) (he:starEach (e::es) X.env=(false,eval e X.env)::starEach es X.env:=by rfl) (hpl:(backTo pos (starEach es X.env)).any (·.1)=false:=by rfl) :
    PE X (.Call (.Name x p) (e::es) [] pos) (tE X W (aR ps.length m r)):=bt (pe_callSD F.ok hr hg hm F.kp F.b .nil (passAt tk) ha hdb he hpl) fun _ _ _ h=>t_call h
def cu (cn nm:Str) (n:Nat) (m:MF) (ma:ME) (r:MA):ME:=fun env S=>(ma env S).bind fun d S=>match d with
  | .loc l=>match S[l]? with
    | some (.ins C fs)=>if C=cn∧(fs.map (·.1)).contains nm=false then (r env S).bind fun ds S=>chk n m (.loc l::ds) S else .stuck
    | _=>.stuck
  | _=>.stuck
theorem eR {nm:Str}:∀ {ns:List Str} {vs:List V},ns.contains nm=false→(ns.zip vs).lookup nm=none
  | [],vs,_=>by simp
  | n::ns,[],_=>by simp
  | n::ns,v::vs,h=>by
    rw[List.contains_cons,Bool.or_eq_false_iff] at h
    rw[List.zip_cons_cons,List.lookup_cons,h.1]
    exact eR h.2
theorem xP {pl:Sem Bool} (he:PE X o (tE X W ma)) (hC:X.mg cn=some (.ref C)) (c:Cls X.K C) (hm:Meth X.K C nm f) (F:FnM X.prog X.w X.K X.mg X.base k f fd ps m) (hr:Room k X.A) (tk:Takes X W) (ha:PA X (e::es) (tAs X W r))
    (hst:starEach (e::es) X.env=(false,eval e X.env)::starEach es X.env:=by rfl) (hpl:(backTo pos (starEach es X.env)).any (·.1)=false:=by rfl)
    (ht:eval (.Call (.Attribute o nm apos) (e::es) [] pos) X.env=(do
      let ov ←eval o X.env
      standAt apos.atName
      let (f,first) ←holding [ov] (getMethod ov nm pl)
      callWith pos f first (backTo pos (starEach (e::es) X.env)) (backToKw pos (keywordEach [] X.env))):=by rfl) :
    PE X (.Call (.Attribute o nm apos) (e::es) [] pos) (tE X W (cu cn nm ps.length m ma r)):=by
  refine ⟨fun pins s σ H Q I ⟨env,S,μ,rl,o⟩=>?_⟩
  refine PySem.W.methodCall_KW (pl:=pl) (thn (he.run pins s σ H _ I ⟨env,S,μ,rl,Out.bind o⟩) fun u s1 ⟨x,H1,I1,rx,μ1,S1,d,st,rs,rd,o1⟩=>?_) ht
  cases d with
  | loc l=>
    unfold Rep at rd
    obtain ⟨a,rfl,hμ⟩:=rd
    dsimp only at o1
    split at o1
    · rename_i C' fs es'
      split at o1
      · rename_i hcn
        obtain ⟨rfl,hnm⟩:=hcn
        obtain ⟨a',h1,Ca,dx,vs,hC',ha',hfs⟩:=rs.at_ _ _ es'
        rw[hμ] at h1; cases h1
        rw[hC] at hC'; cases hC'
        obtain rfl:u=Value.ref a:=rx
        refine getmeth_ok I1 ha' c hm (eR hnm) ?_
        refine PySem.W.callWith_K (first:=[.ref a]) (h₀:=X.base) I.ok.mod.kin hm.kp (thn (ha.run pos pins s1 σ H1 _ I1 ⟨env,S1,μ1,⟨rl.env.step st,rs⟩,Out.bind o1⟩) fun us s2 ⟨ws,H2,I2,rw2,μ2,S2,ds,st2,rs2,rds,o2⟩=>⟨I2.kIn,?_⟩) hst hpl
        refine run_fnSD (us:=.ref a::us) (vs:=.ref a::ws) (E:=WE W) F.ok hr F.b .nil (passAt tk σ) I2 (.cons rfl rw2) ⟨_,S2,μ2,rs2,?_,lN o2⟩
        rw[List.append_nil]
        exact .cons (by unfold Rep; exact ⟨a,rfl,st2.get hμ⟩) rds
      · exact o1.elim
    · exact o1.elim
  | _=>exact o1.elim
theorem vP {pl:Sem Bool} (he:PE X o (tE X W ma)) (hC:X.mg cn=some (.ref C)) (c:Cls X.K C) (hm:Meth X.K C nm f) (F:FnM X.prog X.w X.K X.mg X.base k f fd ps m) (hr:Room k X.A) (tk:Takes X W)
    (ht:eval (.Call (.Attribute o nm apos) [] [] pos) X.env=(do
      let ov ←eval o X.env
      standAt apos.atName
      let (f,first) ←holding [ov] (getMethod ov nm pl)
      callWith pos f first (backTo pos (starEach [] X.env)) (backToKw pos (keywordEach [] X.env))):=by rfl) :
    PE X (.Call (.Attribute o nm apos) [] [] pos) (tE X W (cu cn nm ps.length m ma aJ)):=by
  refine ⟨fun pins s σ H Q I ⟨env,S,μ,rl,o⟩=>?_⟩
  refine PySem.W.methodCall_KW (pl:=pl) (thn (he.run pins s σ H _ I ⟨env,S,μ,rl,Out.bind o⟩) fun u s1 ⟨x,H1,I1,rx,μ1,S1,d,st,rs,rd,o1⟩=>?_) ht
  cases d with
  | loc l=>
    unfold Rep at rd
    obtain ⟨a,rfl,hμ⟩:=rd
    dsimp only at o1
    split at o1
    · rename_i C' fs es'
      split at o1
      · rename_i hcn
        obtain ⟨rfl,hnm⟩:=hcn
        obtain ⟨a',h1,Ca,dx,vs,hC',ha',hfs⟩:=rs.at_ _ _ es'
        rw[hμ] at h1; cases h1
        rw[hC] at hC'; cases hC'
        obtain rfl:u=Value.ref a:=rx
        refine getmeth_ok I1 ha' c hm (eR hnm) ?_
        refine PySem.W.callWith_K0 (first:=[.ref a]) I1.kIn hm.kp (run_fnSD (us:=[.ref a]) (vs:=[.ref a]) (E:=WE W) F.ok hr F.b .nil (passAt tk σ) I1 (.cons rfl .nil) ⟨[.loc l],S1,μ1,rs,.cons (by unfold Rep; exact ⟨a,rfl,hμ⟩) .nil,lN o1⟩)
      · exact o1.elim
    · exact o1.elim
  | _=>exact o1.elim
def ke (cn:Str) (n:Nat) (mi:MF) (r:MA):ME:=fun env S=>(r env S).bind fun ds S=>(chk n mi (.loc S.length::ds) (S++[.ins cn []])).bind fun d S'=>match d with
  | .none=>.ok (.loc S.length) S'
  | _=>.stuck
theorem uQ {pins:List (Addr × Obj)} {σ:L2.St} {H:Hp} {s:Shared} {Q:VK} {us:List Value} {vs:List V} {CX:CXT} {sp:Sp} {dvs:List V} {ds:List Value} {E:XK} (M:Mk X.K C f) (F:FnOk X.prog X.w X.K X.mg X.base CX k f fd ps sp) (hr:Room (k+1) X.A) (hb:Binds X.K fd ps ds) (hd:Vals dvs ds)
    (hx:PassesAt CX X σ E) (I:L2.Inv X pins σ H s) (r:Vals vs us)
    (h:∀x dx,H x=none→H dx=none→dx≠x→sp (.ref x::(vs++dvs)) (upd (upd H dx (.own x)) x (.ins C dx [])) (fun v H2=>v=.non∧Q (.ref x) H2) E) :
    wpAny (model X.prog X.w) X.A (call (.ref C) us) (EP X pins σ Q) X.xe s:=by
  have hq:=h (s.heap.objs.size+1) s.heap.objs.size (I.hok.fresh (Nat.le_succ _)) (I.hok.fresh (Nat.le_refl _)) (Nat.ne_of_lt (Nat.lt_succ_self _))
  have I2:=Inv.made (C:=C) I
  have r2:Vals (V.ref (s.heap.objs.size+1)::(vs++dvs)) (Value.ref (s.heap.objs.size+1)::(us++ds)):=.cons rfl (r.append hd)
  have hl:(Value.ref (s.heap.objs.size+1)::us++ds).length=ps.length:=by
    have e:=r2.length
    rw[F.len _ _ _ _ hq] at e
    exact e.symm
  refine wpAny_call (make_map (f:=f) I.kIn M.makes M.init (beq_iff_eq.mp M.fn) (codeAny_mono (F.run _ X.stack _ _ ⟨Value.ref (s.heap.objs.size+1)::us,[]⟩ (Value.ref (s.heap.objs.size+1)::(us++ds)) _ _ E (hr.make C us [])
    (I2.env0.make C us []) (hb _ (Value.ref (s.heap.objs.size+1)::us) I2.kIn hl) r2 hq) fun r s' hq'=>?_))
  cases r with
  | error e=>exact hx pins _ _ e s' I2 hq'
  | ok fl=>
    cases fl with
    | ret u=>
      obtain ⟨v,H',I3,rv,ev,q3⟩:=I2.after hq'
      subst ev
      exact ⟨rv,⟨V.ref (s.heap.objs.size+1),H',I3,rfl,q3⟩⟩
    | next=>exact False.elim hq'
    | brk=>exact False.elim hq'
    | cont=>exact False.elim hq'
/-- a new instance in the store -/
theorem xQ {K:PySem.W.Frag} {mg:Str→Option Value} {μ:Mu} {H:Hp} {S:Sto} {x dx:Addr} (rs:RelS K mg μ H S) (hC:mg cn=some (.ref C)) (hx:H x=none) (hd:H dx=none) (hne:dx≠x) :
    Step μ H (μ.push x) (upd (upd H dx (.own x)) x (.ins C dx []))∧RelS K mg (μ.push x) (upd (upd H dx (.own x)) x (.ins C dx [])) (S++[.ins cn []])∧Rep K mg (μ.push x) (upd (upd H dx (.own x)) x (.ins C dx [])) (.loc S.length) (.ref x):=by
  have s1:Step μ H μ (upd H dx (.own x)):=.of_sm (.upd hd)
  have r1:=rs.sm (Sm.upd (o:=.own x) hd)
  have hx':upd H dx (.own x) x=none:=by rw[upd_ne hne.symm]; exact hx
  obtain ⟨a,b,c⟩:=lK (ho:=.ins C dx []) (o:=.ins cn []) r1 hx' ⟨C,dx,[],hC,upd_same,.nil⟩
  exact ⟨s1.trans a,b,c⟩
theorem vQ {K:PySem.W.Frag} {mg:Str→Option Value} {μ:Mu} {H:Hp} {W:WX} {σ:L2.St} {Q:VK} {r:Res D} {l:Nat} {x:Addr} (hl:μ.l[l]?=some x)
    (o:Out K mg W σ μ H (fun μ H a b=>Rep K mg μ H a b) Q (r.bind fun d S'=>match d with|.none=>.ok (.loc l) S'|_=>.stuck)):Out K mg W σ μ H (fun μ H a b=>Rep K mg μ H a b) (fun v H2=>v=.non∧Q (.ref x) H2) r:=by
  cases r with
  | ok d S=>
    cases d with
    | none=>
      intro μ' H' v st rs r
      have r:Rep K mg μ' H' .none v:=r
      unfold Rep at r
      exact ⟨r,o μ' H' (.ref x) st rs (by unfold Rep; exact ⟨x,rfl,st.get hl⟩)⟩
    | _=>exact o.elim
  | exc e S=>exact o
  | stuck=>exact o
theorem xR (hC:X.mg cn=some (.ref C)) (M:Mk X.K C f) (F:FnM X.prog X.w X.K X.mg X.base k f fd ps mi) (hr:Room (k+1) X.A) (hg:Gl X cn) (tk:Takes X W) (ha:PA X (e::es) (tAs X W r)) (hdb:(cn == ("__debug__":Str))=false:=by decide)
    (he:starEach (e::es) X.env=(false,eval e X.env)::starEach es X.env:=by rfl) (hpl:(backTo pos (starEach es X.env)).any (·.1)=false:=by rfl) :
    PE X (.Call (.Name cn p) (e::es) [] pos) (tE X W (ke cn ps.length mi r)):=by
  refine ⟨fun pins s σ H Q I ⟨env,S,μ,rl,o⟩=>?_⟩
  refine wpAny_Call_Name_kw (ld_glob I hg hC ?_ hdb)
  refine PySem.W.callWith_K (h₀:=X.base) I.ok.mod.kin M.kp (thn (ha.run pos pins s σ H _ I ⟨env,S,μ,rl,Out.bind o⟩) fun us s1 ⟨vs,H1,I1,r,μ1,S1,ds,st,rs,rd,o1⟩=>⟨I1.kIn,?_⟩) he hpl
  refine uQ (E:=WE W σ) M F.ok hr F.b .nil (passAt tk σ) I1 r fun x dx hx hd hne=>?_
  obtain ⟨a,b,c⟩:=xQ rs hC hx hd hne
  refine ⟨.loc S1.length::ds,_,_,b,?_,lN (vQ ?_ (Out.of_step a o1))⟩
  · rw[List.append_nil]
    exact .cons c (RepAll.step a _ _ rd)
  · unfold Rep at c
    obtain ⟨x',e1,e2⟩:=c
    cases e1
    exact e2
def df (cn f:Str) (ma:ME):ME:=fun env S=>(ma env S).bind fun d S=>match d with
  | .loc l=>match S[l]? with
    | some (.ins C fs)=>if C=cn then ofO S (fs.lookup f) else .stuck
    | _=>.stuck
  | _=>.stuck
theorem lx {K:PySem.W.Frag} {mg:Str→Option Value} {μ:Mu} {H:Hp} {g:Str}:∀ {fs:List (Str × D)} {vs:List V} {d:D},RepAll K mg μ H (fs.map (·.2)) vs→fs.lookup g=some d→∃v,((fs.map (·.1)).zip vs).lookup g=some v∧Rep K mg μ H d v
  | [],vs,d,_,e=>by simp at e
  | (n,a)::fs,vs,d,r,e=>by
    have r:RepAll K mg μ H (a::fs.map (·.2)) vs:=r
    unfold RepAll at r
    obtain ⟨v,q,rfl,r1,r2⟩:=r
    rw[List.lookup_cons] at e
    rw[List.map_cons,List.zip_cons_cons,List.lookup_cons]
    cases h:g == n with
    | true=>rw[h] at e; cases e; exact ⟨v,by simp[h],r1⟩
    | false=>
      rw[h] at e
      obtain ⟨v,h1,h2⟩:=lx r2 e
      exact ⟨v,by simpa [h] using h1,h2⟩
theorem bV {g:Str} (he:PE X e (tE X W ma)) (hC:X.mg cn=some (.ref C)) (c:Cls X.K C) (n:NoAttr X.K C g) (hb:attributeBase e g X.env (eval e X.env)=eval e X.env:=by rfl):PE X (.Attribute e g pos) (tE X W (df cn g ma)):=
  bt (pe_fld he hb) fun σ H Q ⟨env,S,μ,rl,o⟩=>⟨env,S,μ,rl,(Out.bind o).mono fun x H1 ⟨μ1,S1,d,st,rs,rd,o1⟩=>by
    cases d with
    | loc l=>
      unfold Rep at rd
      obtain ⟨a,rfl,hμ⟩:=rd
      dsimp only at o1
      split at o1
      · rename_i C' fs es'
        split at o1
        · rename_i hcn
          subst hcn
          obtain ⟨a',h1,Ca,dx,vs,hC',ha',hfs⟩:=rs.at_ _ _ es'
          rw[hμ] at h1; cases h1
          rw[hC] at hC'; cases hC'
          cases el:fs.lookup g with
          | none=>rw[el] at o1; exact o1.elim
          | some d'=>
            rw[el] at o1
            obtain ⟨v,h3,h4⟩:=lx hfs el
            exact ⟨a,C,dx,_,v,rfl,ha',c,n,h3,o1 μ1 H1 v .refl rs h4⟩
        · exact o1.elim
      · exact o1.elim
    | _=>exact o1.elim⟩
def gt (f:Str) (v:D):List (Str × D)→List (Str × D)
  | []=>[(f,v)]
  | (g,x)::r=>if g=f then (g,v)::r else (g,x)::gt f v r
theorem pv {K:PySem.W.Frag} {mg:Str→Option Value} {μ:Mu} {H:Hp} {g:Str} {d:D} {v:V} (rd:Rep K mg μ H d v):∀ {fs:List (Str × D)} {vs:List V},RepAll K mg μ H (fs.map (·.2)) vs→
    ∃ws,putF g v ((fs.map (·.1)).zip vs)=((gt g d fs).map (·.1)).zip ws∧RepAll K mg μ H ((gt g d fs).map (·.2)) ws
  | [],vs,r=>⟨[v],by simp[putF,gt],.cons rd .nil⟩
  | (n,a)::fs,vs,r=>by
    have r:RepAll K mg μ H (a::fs.map (·.2)) vs:=r
    unfold RepAll at r
    obtain ⟨u,q,rfl,r1,r2⟩:=r
    rw[List.map_cons,List.zip_cons_cons]
    unfold putF gt
    by_cases h:n=g
    · rw[if_pos h,if_pos h]
      exact ⟨v::q,rfl,.cons rd r2⟩
    · rw[if_neg h,if_neg h]
      obtain ⟨ws,h1,h2⟩:=pv rd r2
      exact ⟨u::ws,by rw[h1]; rfl,.cons r1 h2⟩
def jP (cn f:Str) (ma mv:ME):MS:=fun env S=>(mv env S).rs env fun d S=>(ma env S).rs env fun o S=>match o with
  | .loc l=>match S[l]? with
    | some (.ins C fs)=>if C=cn∧fs.length<1000 then .next env (S.set l (.ins C (gt f d fs))) else .stuck
    | _=>.stuck
  | _=>.stuck
theorem xS {K:PySem.W.Frag} {mg:Str→Option Value} {μ:Mu} {H:Hp} {S:Sto} {l:Nat} {a C dx:Addr} {g:Str} {d:D} {v:V} {fs:List (Str × D)} {vs:List V} (rs:RelS K mg μ H S) (hC:mg cn=some (.ref C)) (hμ:μ.l[l]?=some a) (ha:H a=some (.ins C dx ((fs.map (·.1)).zip vs)))
    (r:RepAll K mg μ H (fs.map (·.2)) vs) (rd:Rep K mg μ H d v):Step μ H μ (upd H a (.ins C dx (putF g v ((fs.map (·.1)).zip vs))))∧RelS K mg μ (upd H a (.ins C dx (putF g v ((fs.map (·.1)).zip vs)))) (S.set l (.ins cn (gt g d fs))):=by
  have st:Step μ H μ (upd H a (.ins C dx (putF g v ((fs.map (·.1)).zip vs)))):=Step.write rs hμ (.of ha)
  refine ⟨st,rs.write hμ (.of ha) ?_⟩
  obtain ⟨ws,h1,h2⟩:=pv (g:=g) (Rep.step st _ _ rd) (RepAll.step st _ _ r)
  exact ⟨C,dx,ws,hC,by rw[upd_same,h1],h2⟩
theorem j2 {g:Str} {value:Expr} {pos':Pos} (hv:PE X value (tE X W mv)) (ha:PE X o (tE X W ma)) (hC:X.mg cn=some (.ref C)) (c:Cls X.K C) (n:NoAttr X.K C g) (hs:swapsWith value (some (.Attribute o g pos')) pos.line X.env=pure false:=by rfl) :
    PS X (.Assign [.Attribute o g pos'] value pos) (tS X W (jP cn g ma mv)):=
  fB (ps_fld ha hv hs) fun D' σ H ⟨env,S,μ,rl,o⟩=>⟨env,S,μ,rl,(OutS.rs rl.env o).mono fun y H1 ⟨μ1,S1,d,st,rs,rd,o1⟩=>⟨env,S1,μ1,⟨rl.env.step st,rs⟩,(OutS.rs (rl.env.step st) o1).mono fun x H2 ⟨μ2,S2,od,st2,rs2,ro,o2⟩=>by
    cases od with
    | loc l=>
      unfold Rep at ro
      obtain ⟨a,rfl,hμ⟩:=ro
      dsimp only at o2
      split at o2
      · rename_i C' fs es'
        split at o2
        · rename_i hcn
          obtain ⟨hcn,hlen⟩:=hcn
          subst hcn
          obtain ⟨a',h1,Ca,dx,vs,hC',ha',hfs⟩:=rs2.at_ _ _ es'
          rw[hμ] at h1; cases h1
          rw[hC] at hC'; cases hC'
          obtain ⟨sw,rw'⟩:=xS (g:=g) rs2 hC hμ ha' hfs (Rep.step st2 _ _ rd)
          refine ⟨a,C,dx,_,rfl,ha',c,n,?_,o2 μ2 _ σ sw (((rl.env.step st).step st2).step sw) rw'⟩
          have:=hfs.length
          simp only[List.length_map] at this
          simp[←this,hlen]
        · exact o2.elim
      · exact o2.elim
    | _=>exact o2.elim⟩⟩
end
end DL
namespace DL
open PySem PySem.Spec PyProof.Rows L2
abbrev BF:=Sto→List D→Option D
def rB (K:PySem.W.Frag) (mg:Str→Option Value) (f:BF):List V→Hp→VK→Prop:=fun xs H Q=>
  ∃μ S ds d,RelS K mg μ H S∧RepAll K mg μ H ds xs∧f S ds=some d∧∀H' v,Sm H H'→Rep K mg μ H' d v→Q v H'
def eB (f:BF) (r:MA):ME:=fun env S=>(r env S).bind fun ds S=>ofO S (f S ds)
section
variable {X:Cx} {W:WX} {e:Expr} {es:List Expr} {p pos:Pos} {r:MA} {f:BF} {x:Str} {id T:String}
theorem t_b {σ:L2.St} {H:Hp} {Q:VK} (h:tE X W (eB f r) σ H Q):tCB (rB X.K X.mg f) (tAs X W r) σ H Q:=by
  obtain ⟨env,S,μ,rl,o⟩:=h
  refine ⟨env,S,μ,rl,(Out.bind o).mono fun vs H1 ⟨μ1,S1,ds,st,rs,rd,o1⟩=>?_⟩
  cases e:f S1 ds with
  | none=>rw[e] at o1; exact o1.elim
  | some d=>rw[e] at o1; exact ⟨μ1,S1,ds,d,rs,rd,e,fun H' v sm r=>o1 μ1 H' v (.of_sm sm) (rs.sm sm) r⟩
theorem bj (hc:CallR X (.builtin id) (rB X.K X.mg f)) (hg:Gl X x) (hm:X.mg x=none) (hv:bootBuiltins x=some (.builtin id)) (ha:PA X (e::es) (tAs X W r)) (hn:x≠"__name__":=by decide) (hdb:(x == ("__debug__":Str))=false:=by decide)
    (he:starEach (e::es) X.env=(false,eval e X.env)::starEach es X.env:=by rfl) (hpl:(backTo pos (starEach es X.env)).any (·.1)=false:=by rfl):PE X (.Call (.Name x p) (e::es) [] pos) (tE X W (eB f r)):=
  bt (pe_callB hc hg hm hv ha hn hdb he hpl) fun _ _ _ h=>t_b h
theorem dQ (hc:CallR X (.type T) (rB X.K X.mg f)) (hg:Gl X x) (hm:X.mg x=none) (hv:bootBuiltins x=some (.type T)) (ha:PA X (e::es) (tAs X W r)) (hn:x≠"__name__":=by decide) (hdb:(x == ("__debug__":Str))=false:=by decide)
    (he:starEach (e::es) X.env=(false,eval e X.env)::starEach es X.env:=by rfl) (hpl:(backTo pos (starEach es X.env)).any (·.1)=false:=by rfl):PE X (.Call (.Name x p) (e::es) [] pos) (tE X W (eB f r)):=
  bt (pe_callTy hc hg hm hv ha hn hdb he hpl) fun _ _ _ h=>t_b h
end
theorem g8 {X:Cx} {f:Value} {r r':List V→Hp→VK→Prop} (h:CallR X f r) (i:∀xs H Q,r' xs H Q→r xs H Q):CallR X f r':=fun pins s σ H xs us Q I rx w=>h pins s σ H xs us Q I rx (i _ _ _ w)
def cg (S:Sto) (ds:List D):Option D:=match ds with
  | [d]=>match view S d with
    | .tup xs=>some (.int xs.length)
    | .lst xs=>some (.int xs.length)
    | .ro xs=>some (.int xs.length)
    | .str z=>if z.length≤1000000 then some (.int z.length) else none
    | .loc l=>match S[l]? with
      | some (.dct false kvs)=>some (.int kvs.length)
      | _=>none
    | _=>none
  | _=>none
theorem jQ {κ:Type} {K:PySem.W.Frag} {mg:Str→Option Value} {μ:Mu} {H:Hp} {kvs:List (D × D)} {ks:List κ} {g:κ→D} {vs:List V} (e:kvs.map (·.1)=ks.map g) (r:RepAll K mg μ H (kvs.map (·.2)) vs):(ks.zip vs).length=kvs.length:=by
  have h1:=congrArg List.length e
  have h2:=r.length
  simp only[List.length_map] at h1 h2
  rw[List.length_zip,←h1,←h2,Nat.min_self]
section
variable {X:Cx}
theorem dR:CallR X (.builtin "len") (rB X.K X.mg cg):=by
  intro pins s σ H xs us Q I rx ⟨μ,S,ds,d,rs,ra,e,q⟩
  unfold cg at e
  split at e
  · rename_i d0
    obtain ⟨v,rfl,r1⟩:=cU ra
    have rw0:=rs.view r1
    split at e
    · rename_i ys ev
      rw[ev] at rw0
      cases e
      obtain ⟨a,vs,rfl,h,l,_⟩:=rw0.tup
      exact call_len pins s σ H _ us Q I rx ⟨_,ys.length,rfl,.inr ⟨vs,.inl h,l.length⟩,q H _ .rfl (bB _)⟩
    · rename_i ys ev
      rw[ev] at rw0
      cases e
      obtain ⟨a,vs,rfl,h,l⟩:=rw0
      exact call_len pins s σ H _ us Q I rx ⟨_,ys.length,rfl,.inl ⟨vs,.of h,l.length⟩,q H _ .rfl (bB _)⟩
    · rename_i ys ev
      rw[ev] at rw0
      cases e
      have rw0:Rep X.K X.mg μ H (.ro ys) v:=rw0
      unfold Rep at rw0
      obtain ⟨a,vs,rfl,h,l⟩:=rw0
      exact call_len pins s σ H _ us Q I rx ⟨_,ys.length,rfl,.inl ⟨vs,h.sq,l.length⟩,q H _ .rfl (bB _)⟩
    · rename_i z ev
      rw[ev] at rw0
      split at e
      · rename_i hz
        cases e
        have:=rw0.str
        subst this
        exact call_len pins s σ H _ us Q I rx ⟨_,z.length,rfl,⟨cY hz,rfl⟩,q H _ .rfl (bB _)⟩
      · cases e
    · rename_i l ev
      rw[ev] at rw0
      have rw0:Rep X.K X.mg μ H (.loc l) v:=rw0
      unfold Rep at rw0
      obtain ⟨a,rfl,hμ⟩:=rw0
      split at e
      · rename_i kvs es
        cases e
        obtain ⟨a',h1,vs,ks,⟨h2,hk⟩,lr⟩:=rs.at_ _ _ es
        rw[hμ] at h1; cases h1
        exact call_lenD pins s σ H _ us Q I rx ⟨a,_,rfl,h2,by rw[jQ hk lr]; exact q H _ .rfl (bB _)⟩
      · cases e
    · cases e
  · cases e
end
def g9 (S:Sto):D→Option String
  | .none=>some "NoneType"
  | .bool _=>some "bool"
  | .int _=>some "int"
  | .str _=>some "str"
  | .tup _=>some "tuple"
  | .tpn _=>some "tuple"
  | .lst _=>some "list"
  | .loc l=>match S[l]? with
    | some (.lst _)=>some "list"
    | some (.dct _ _)=>some "dict"
    | _=>none
  | _=>none
def isTy (t n:String):Bool:=t == n||(t == "bool"&&n == "int")
def eA (n:String):Bool:=n == "int"||n == "bool"||n == "str"||n == "tuple"||n == "list"||n == "dict"
def tR:List D→Option (List String)
  | []=>some []
  | .ty n::cs=>if eA n then (tR cs).map (n::·) else none
  | _::_=>none
def cK (S:Sto) (ds:List D):Option D:=match ds with
  | [x,.ty n]=>match g9 S x with
    | some t=>if eA n then some (.bool (isTy t n)) else none
    | none=>none
  | [x,.tup cs]=>match g9 S x with
    | some t=>(tR cs).map fun ns=>.bool (ns.any (isTy t))
    | none=>none
  | _=>none
theorem tU:∀t∈["NoneType","bool","int","str","tuple","list","dict"],∀n∈["int","bool","str","tuple","list","dict"],kitB t n=some (isTy t n):=by decide +kernel
theorem nN {n:String} (h:eA n=true):n∈["int","bool","str","tuple","list","dict"]:=by
  unfold eA at h
  simp only[Bool.or_eq_true,beq_iff_eq] at h
  simp only[List.mem_cons,List.not_mem_nil,or_false]
  rcases h with ((((h|h)|h)|h)|h)|h<;>simp[h]
section
variable {K:PySem.W.Frag} {mg:Str→Option Value} {μ:Mu} {H:Hp} {S:Sto}
theorem tV (rs:RelS K mg μ H S) {x:D} {v:V} {t:String} (r:Rep K mg μ H x v) (e:g9 S x=some t):TyX K H v (.type t)∧t∈["NoneType","bool","int","str","tuple","list","dict"]:=by
  cases x with
  | none=>cases e; unfold Rep at r; subst r; exact ⟨.base .non,by decide⟩
  | bool b=>cases e; unfold Rep at r; subst r; exact ⟨.base (.bl _),by decide⟩
  | int b=>cases e; unfold Rep at r; subst r; exact ⟨.base (.int _),by decide⟩
  | str b=>cases e; unfold Rep at r; subst r; exact ⟨.base (.str _),by decide⟩
  | tup b=>cases e; unfold Rep at r; obtain ⟨a,vs,rfl,h,_⟩:=r; exact ⟨.base (.tup h),by decide⟩
  | tpn b=>cases e; unfold Rep at r; obtain ⟨a,vs,o,rfl,⟨h,_⟩,_⟩:=r; exact ⟨.fTuple h,by decide⟩
  | lst b=>cases e; unfold Rep at r; obtain ⟨a,vs,rfl,h,_⟩:=r; exact ⟨.base (.lst h),by decide⟩
  | loc l=>
    unfold Rep at r
    obtain ⟨a,rfl,hμ⟩:=r
    have e:(match S[l]? with|some (.lst _)=>some "list"|some (.dct _ _)=>some "dict"|_=>none)=some t:=e
    split at e
    · rename_i xs es
      cases e
      obtain ⟨a',h1,vs,h2,_⟩:=rs.at_ _ _ es
      rw[hμ] at h1; cases h1
      exact ⟨.base (.lst h2),by decide⟩
    · rename_i t kvs es
      cases e
      obtain ⟨a',h1,ro⟩:=rs.at_ _ _ es
      rw[hμ] at h1; cases h1
      cases t with
      | false=>obtain ⟨vs,ks,⟨h2,_⟩,_⟩:=ro; exact ⟨.base (.dK h2),by decide⟩
      | true=>obtain ⟨vs,ks,⟨h2,_⟩,_⟩:=ro; exact ⟨.base (.dT h2),by decide⟩
    · cases e
  | _=>cases e
theorem pz {t:String} (ht:t∈["NoneType","bool","int","str","tuple","list","dict"]):∀ {cs:List D} {vs:List V} {ns:List String},RepAll K mg μ H cs vs→tR cs=some ns→∃us,Paired ClsV vs us∧PySem.W.kitAny K (.type t) us=some (ns.any (isTy t))
  | [],vs,ns,r,e=>by
    unfold RepAll at r; subst r
    cases e
    exact ⟨[],.nil,rfl⟩
  | c::cs,vs,ns,r,e=>by
    unfold RepAll at r
    obtain ⟨v,q,rfl,r1,r2⟩:=r
    cases c with
    | ty n=>
      unfold Rep at r1; subst r1
      unfold tR at e
      split at e
      · rename_i hk
        obtain ⟨ns',h1,rfl⟩:=Option.map_eq_some_iff.mp e
        have hkit:=kit_ty (K:=K) (tU t ht n (nN hk))
        obtain ⟨us,h2,h3⟩:=pz ht r2 h1
        refine ⟨.type n::us,.cons (.ty n) h2,kitAny_cons hkit (fun h=>?_) fun h=>?_⟩
        · rw[List.any_cons,h,Bool.false_or]; exact h3
        · rw[List.any_cons,h,Bool.true_or]
      · cases e
    | _=>cases e
end
section
variable {X:Cx}
theorem fW:CallR X (.builtin "isinstance") (rB X.K X.mg cK):=by
  intro pins s σ H xs us Q I rx ⟨μ,S,ds,d,rs,ra,e,q⟩
  unfold cK at e
  split at e
  · rename_i x0 n
    obtain ⟨v,w,rfl,r1,r2⟩:=iL ra
    split at e
    · rename_i t et
      split at e
      · rename_i hk
        cases e
        obtain ⟨h1,h2⟩:=tV rs r1 et
        unfold Rep at r2; subst r2
        exact call_isi pins s σ H _ us Q I rx ⟨v,.ty n,.type t,.type n,_,rfl,.ty n,h1,kit_ty (tU t h2 n (nN hk)),q H _ .rfl (cI _)⟩
      · cases e
    · cases e
  · rename_i x0 cs
    obtain ⟨v,w,rfl,r1,r2⟩:=iL ra
    split at e
    · rename_i t et
      obtain ⟨ns,h3,rfl⟩:=Option.map_eq_some_iff.mp e
      obtain ⟨h1,h2⟩:=tV rs r1 et
      unfold Rep at r2
      obtain ⟨tp,vs,rfl,htp,_,rcs⟩:=r2
      obtain ⟨ts,h4,h5⟩:=pz h2 rcs h3
      exact call_isiT pins s σ H _ us Q I rx ⟨v,tp,vs,.type t,ts,_,rfl,htp,h4,h1,h5,q H _ .rfl (cI _)⟩
    · cases e
  · cases e
def hJ (_:Sto) (ds:List D):Option D:=match ds with
  | [.int i]=>some (.int i)
  | [.bool b]=>some (.int (if b then 1 else 0))
  | _=>none
theorem iV:CallR X (.type "int") (rB X.K X.mg hJ):=g8 call_int1 fun xs H Q ⟨μ,S,ds,d,rs,ra,e,q⟩=>by
  unfold hJ at e
  split at e
  · cases e
    obtain ⟨v,rfl,r1⟩:=cU ra
    unfold Rep at r1; subst r1
    exact .inl ⟨_,rfl,q H _ .rfl (bB _)⟩
  · cases e
    obtain ⟨v,rfl,r1⟩:=cU ra
    unfold Rep at r1; subst r1
    exact .inr ⟨_,rfl,q H _ .rfl (bB _)⟩
  · cases e
def fMax2 (_:Sto) (ds:List D):Option D:=match ds with
  | [.int i,.int j]=>some (.int (if j>i then j else i))
  | _=>none
def nO (_:Sto) (ds:List D):Option D:=match ds with
  | [.int i,.int j]=>some (.int (if j<i then j else i))
  | _=>none
theorem vR (hc:X.calm=true):CallR X (.builtin "min") (rB X.K X.mg nO):=g8 (call_min2 hc) fun xs H Q ⟨μ,S,ds,d,rs,ra,e,q⟩=>by
  unfold nO at e
  split at e
  · cases e
    obtain ⟨v,w,rfl,r1,r2⟩:=iL ra
    unfold Rep at r1 r2; subst r1 r2
    exact ⟨_,_,rfl,q H _ .rfl (bB _)⟩
  · cases e
def oX:List D→Option (List Int)
  | []=>some []
  | .int i::ds=>(oX ds).map (i::·)
  | _::_=>none
def fX:List D→Option (List Bool)
  | []=>some []
  | .bool i::ds=>(fX ds).map (i::·)
  | _::_=>none
theorem nP {K:PySem.W.Frag} {mg:Str→Option Value} {μ:Mu} {H:Hp}:∀ {ds:List D} {vs:List V} {ns:List Bool},RepAll K mg μ H ds vs→fX ds=some ns→vs=ns.map V.bl
  | [],vs,ns,r,e=>by unfold RepAll at r; cases e; exact r
  | d::ds,vs,ns,r,e=>by
    unfold RepAll at r
    obtain ⟨v,q,rfl,r1,r2⟩:=r
    cases d with
    | bool i=>
      unfold fX at e
      obtain ⟨ms,h1,rfl⟩:=Option.map_eq_some_iff.mp e
      unfold Rep at r1
      rw[r1,nP r2 h1]; rfl
    | _=>cases e
def fSum (S:Sto) (ds:List D):Option D:=match ds with
  | [d]=>match view S d with
    | .lst xs=>(oX xs).map fun ns=>.int ns.sum
    | _=>none
  | _=>none
def j3 (S:Sto) (ds:List D):Option D:=match ds with
  | [d]=>match view S d with
    | .lst xs=>(fX xs).map fun ns=>.bool (ns.all id)
    | _=>none
  | _=>none
theorem p0 (hc:X.calm=true):CallR X (.builtin "all") (rB X.K X.mg j3):=g8 (cr_all hc) fun xs H Q ⟨μ,S,ds,d,rs,ra,e,q⟩=>by
  unfold j3 at e
  split at e
  · obtain ⟨v,rfl,r1⟩:=cU ra
    have rw0:=rs.view r1
    split at e
    · rename_i ys ev
      rw[ev] at rw0
      obtain ⟨ns,h1,rfl⟩:=Option.map_eq_some_iff.mp e
      obtain ⟨a,vs,rfl,h,l⟩:=rw0
      exact ⟨a,ns,rfl,by rw[←nP l h1]; exact .of h,q H _ .rfl (cI _)⟩
    · cases e
  · cases e
def iu (S:Sto) (ds:List D):Option D:=match ds with
  | [.tup xs]=>some (.tup xs)
  | [.tpn xs]=>some (.tpn xs)
  | [d]=>match view0 S d with
    | .lst xs=>some (.tpn xs)
    | _=>none
  | _=>none
/-- tuple(a list): what it makes has no dict -/
theorem ly:CallR X (.type "tuple") (fun xs H Q=>∃p ys,xs=[.ref p]∧((SqL X.K H p ys∧∀l o,H l=none→o.dict=none→Q (.ref l) (upd H l (.frz o (.tup ys))))∨(SqT X.K H p ys∧Q (.ref p) H))):=by
  intro pins s σ H xs us Q I r h
  obtain ⟨p,ys,rfl,h⟩:=h
  rcases h with ⟨hq,q⟩|⟨hq,q⟩
  · obtain ⟨u,rfl,rx⟩:=vals1 r
    cases rx
    obtain ⟨its,r',pl,hz⟩:=I.list hq
    have hlen:=r'.length
    refine call_tuple_list pl.isList (fun h' kp=>?_) (by simp only[List.size_toArray]<;>omega)
    have I1:L2.Inv X pins σ H { s with heap:=h' }:=I.kept (t':=s.toks) kp
    have I2:L2.Inv X pins σ (upd H h'.objs.size (.frz { cls:=.type "tuple",data:=.seq its.toArray } (.tup ys))) { s with heap:=h'.push { cls:=.type "tuple",data:=.seq its.toArray } }:=
      I1.laid (t':=s.toks) (fun b o e=>Heap.get?_push_of_some _ e) (Nat.le_refl _) (show ObjOk X.prog X.w _ _ _ (.frz _ (.tup ys)) from ⟨Heap.get?_push_size _ rfl,hz,its,r',IsTup.new _ _⟩)
    exact ⟨.ref h'.objs.size,_,I2,rfl,q _ _ (I1.hok.fresh (Nat.le_refl _)) rfl⟩
  · exact call_tuple_of pins s σ H _ us Q I r ⟨p,ys,rfl,.inr ⟨hq,q⟩⟩
theorem p7 {K:PySem.W.Frag} {mg:Str→Option Value} {μ:Mu} {H:Hp} {S:Sto} (rs:RelS K mg μ H S) {p:Addr} {o:Obj} (hp:H p=none) (ho:o.dict=none) {ds:List D} {vs:List V} (l:RepAll K mg μ H ds vs) :
    Rep K mg μ (upd H p (.frz o (.tup vs))) (.tpn ds) (.ref p):=by
  unfold Rep
  exact ⟨p,vs,o,rfl,⟨upd_same,ho⟩,rs.fresh hp,RepAll.step (.of_sm (.upd hp)) _ _ l⟩
theorem kg:CallR X (.type "tuple") (rB X.K X.mg iu):=g8 ly fun xs H Q ⟨μ,S,ds,d,rs,ra,e,q⟩=>by
  unfold iu at e
  split at e
  · obtain ⟨v,rfl,r1⟩:=cU ra
    cases e
    have r2:=r1
    unfold Rep at r2
    obtain ⟨a,vs,rfl,h,n,l⟩:=r2
    exact ⟨a,vs,rfl,.inr ⟨.of h,q H _ .rfl r1⟩⟩
  · obtain ⟨v,rfl,r1⟩:=cU ra
    cases e
    have r2:=r1
    unfold Rep at r2
    obtain ⟨a,vs,o,rfl,⟨h,_⟩,n,l⟩:=r2
    exact ⟨a,vs,rfl,.inr ⟨.inl (.inr ⟨o,h⟩),q H _ .rfl r1⟩⟩
  · obtain ⟨v,rfl,r1⟩:=cU ra
    have rw0:=rs.view0 r1
    split at e
    · rename_i ys ev
      rw[ev] at rw0
      cases e
      obtain ⟨a,vs,rfl,h,l⟩:=rw0
      exact ⟨a,vs,rfl,.inl ⟨.of h,fun p o hp ho=>q _ _ (.upd hp) (p7 rs hp ho l)⟩⟩
    · cases e
  · cases e
def tW (S:Sto) (ds:List D):Option D:=match ds with
  | [d]=>match view S d with
    | .lst xs=>some (.lst xs)
    | .tup xs=>some (.lst xs)
    | _=>none
  | _=>none
theorem c_list:CallR X (.type "list") (rB X.K X.mg tW):=g8 call_list_of fun xs H Q ⟨μ,S,ds,d,rs,ra,e,q⟩=>by
  unfold tW at e
  split at e
  · obtain ⟨v,rfl,r1⟩:=cU ra
    have rw0:=rs.view r1
    split at e
    · rename_i ys ev
      rw[ev] at rw0
      cases e
      obtain ⟨a,vs,rfl,h,l⟩:=rw0
      exact ⟨a,vs,rfl,.inl (.of h),fun p hp=>q _ _ (.upd hp) (cA rs hp l)⟩
    · rename_i ys ev
      rw[ev] at rw0
      cases e
      obtain ⟨a,vs,rfl,h,l,n⟩:=rw0.tup
      exact ⟨a,vs,rfl,.inr (.inl h),fun p hp=>q _ _ (.upd hp) (cA rs hp l)⟩
    · cases e
  · cases e
end
abbrev BM:=Sto→D→List D→Option (D × Sto)
def rM (K:PySem.W.Frag) (mg:Str→Option Value) (f:BM):V→List V→Hp→VK→Prop:=fun x xs H Q=>
  ∃μ S d ds r S',RelS K mg μ H S∧Rep K mg μ H d x∧RepAll K mg μ H ds xs∧f S d ds=some (r,S')∧∀μ' H' v,Step μ H μ' H'→RelS K mg μ' H' S'→Rep K mg μ' H' r v→Q v H'
def eM (ok:Sto→D→Bool) (f:BM) (ma:ME) (r:MA):ME:=fun env S=>(ma env S).bind fun d S=>if ok S d then (r env S).bind fun ds S=>match f S d ds with
  | some p=>.ok p.1 p.2
  | none=>.stuck else .stuck
def bn (S:Sto) (d:D):Bool:=match view S d with
  | .lst _=>true
  | _=>false
section
variable {X:Cx} {W:WX} {o e:Expr} {es:List Expr} {apos cpos:Pos} {ma:ME} {r:MA} {f:BM} {ok:Sto→D→Bool} {T id:String} {name:Str}
theorem fi {K:PySem.W.Frag} {mg:Str→Option Value} {μ:Mu} {H:Hp} {S:Sto} {d:D} {x:V} (rs:RelS K mg μ H S) (r:Rep K mg μ H d x) (h:bn S d=true):tyV K "list" x H:=by
  unfold bn at h
  have w:=rs.view r
  split at h
  · rename_i xs ev
    rw[ev] at w
    obtain ⟨a,vs,rfl,h,_⟩:=w
    exact .inl ⟨rfl,vs,.of h⟩
  · cases h
theorem oY (hok:∀ {μ:Mu} {H:Hp} {S:Sto} {d:D} {x:V},RelS X.K X.mg μ H S→Rep X.K X.mg μ H d x→ok S d=true→tyV X.K T x H) (pa:PlainAttrs T) (slot:Slot T name id) (hty:typeOf (.builtin id)=pure (.type "method_descriptor")) (hm:MtR X id (rM X.K X.mg f)) (ho:PE X o (tE X W ma)) (ha:PA X (e::es) (tAs X W r))
    (hbase:attributeBase o name X.env (eval o X.env)=eval o X.env:=by rfl)
    (hfew:((backTo cpos (starEach (e::es) X.env)).all (fun x=>!x.1)&&(backToKw cpos (keywordEach [] X.env)).all (fun x=>x.1.isSome)
      && decide ((e::es).length+([]:List Keyword).length+(if ([]:List Keyword).isEmpty then 0 else 1)<30))=true:=by rfl)
    (hline:(apos.endLine == cpos.line)=true:=by rfl) (hs:starEach (e::es) X.env=(false,eval e X.env)::starEach es X.env:=by rfl) (hplain:(backTo cpos (starEach es X.env)).any (·.1)=false:=by rfl) :
    PE X (.Call (.Attribute o name apos) (e::es) [] cpos) (tE X W (eM ok f ma r)):=
  bt (pe_bm pa slot hty hm ho ha hbase hfew hline hs hplain) fun σ H Q ⟨env,S,μ,rl,o⟩=>⟨env,S,μ,rl,(Out.bind o).mono fun x H1 ⟨μ1,S1,d,st,rs,rd,o1⟩=>by
    split at o1
    · rename_i hk
      refine ⟨hok rs rd hk,env,S1,μ1,⟨rl.env.step st,rs⟩,(Out.bind o1).mono fun xs H2 ⟨μ2,S2,ds,st2,rs2,rds,o2⟩=>?_⟩
      cases ef:f S2 d ds with
      | none=>rw[ef] at o2; exact o2.elim
      | some p=>rw[ef] at o2; exact ⟨μ2,S2,d,ds,p.1,p.2,rs2,Rep.step st2 _ _ rd,rds,ef,o2⟩
    · exact o1.elim⟩
theorem sE_m0 (hok:∀ {μ:Mu} {H:Hp} {S:Sto} {d:D} {x:V},RelS X.K X.mg μ H S→Rep X.K X.mg μ H d x→ok S d=true→tyV X.K T x H) (pa:PlainAttrs T) (slot:Slot T name id) (hty:typeOf (.builtin id)=pure (.type "method_descriptor")) (hm:MtR X id (rM X.K X.mg f)) (ho:PE X o (tE X W ma))
    (hbase:attributeBase o name X.env (eval o X.env)=eval o X.env:=by rfl) (hline:(apos.endLine == cpos.line)=true:=by rfl):PE X (.Call (.Attribute o name apos) [] [] cpos) (tE X W (eM ok f ma aJ)):=
  bt (pe_bm0 pa slot hty hm ho hbase hline) fun σ H Q ⟨env,S,μ,rl,o⟩=>⟨env,S,μ,rl,(Out.bind o).mono fun x H1 ⟨μ1,S1,d,st,rs,rd,o1⟩=>by
    split at o1
    · rename_i hk
      refine ⟨hok rs rd hk,?_⟩
      simp only[aJ,Res.bind] at o1
      cases ef:f S1 d [] with
      | none=>rw[ef] at o1; exact o1.elim
      | some p=>rw[ef] at o1; exact ⟨μ1,S1,d,[],p.1,p.2,rs,rd,.nil,ef,o1⟩
    · exact o1.elim⟩
theorem vS {r r':V→List V→Hp→VK→Prop} (h:MtR X id r) (i:∀x xs H Q,r' x xs H Q→r x xs H Q):MtR X id r':=fun pins s σ H x xs v us Q I rx rxs w=>h pins s σ H x xs v us Q I rx rxs (i _ _ _ _ w)
/-- xs.append(d) -/
def bD:BM:=fun S d ds=>match d,ds with
  | .loc l,[a]=>match S[l]? with
    | some (.lst xs)=>if xs.length<1000000 then some (.none,S.set l (.lst (xs++[a]))) else none
    | _=>none
  | _,_=>none
theorem dS:MtR X "list.append" (rM X.K X.mg bD):=vS mt_append fun x xs H Q ⟨μ,S,d,ds,r,S',rs,rd,rds,e,q⟩=>by
  unfold bD at e
  split at e
  · rename_i l a
    unfold Rep at rd
    obtain ⟨ad,rfl,hμ⟩:=rd
    obtain ⟨v,rfl,rv⟩:=cU rds
    split at e
    · rename_i ys es
      split at e
      · rename_i hl
        cases e
        obtain ⟨a',h1,vs,h2,h3⟩:=rs.at_ _ _ es
        rw[hμ] at h1; cases h1
        have st:Step μ H μ (upd H ad (.lst (vs++[v]))):=Step.write rs hμ (.of h2)
        refine ⟨ad,vs,v,rfl,rfl,h2,by rw[←h3.length,sizeLine_eq]; omega,q μ _ .non st (rs.write hμ (.of h2) ⟨_,upd_same,RepAll.step st _ _ (h3.append (.cons rv .nil))⟩) lc⟩
      · cases e
    · cases e
  · cases e
/-- xs.pop() -/
def bPop:BM:=fun S d ds=>match d,ds with
  | .loc l,[]=>match S[l]? with
    | some (.lst xs)=>match xs[xs.length - 1]? with
      | some a=>some (a,S.set l (.lst xs.dropLast))
      | none=>none
    | _=>none
  | _,_=>none
end
end DL
namespace DL
open PySem PySem.Spec PyProof.Rows L2
def gR (t:Bool) (kvs:List (D × D)) (k v:D):List (D × D):=
  if (kvs.any fun p=>keq t p.1 k)=true then kvs.map (fun p=>if keq t p.1 k=true then (p.1,v) else p) else kvs++[(k,v)]
theorem jR {κ:Type} [DecidableEq κ] {f:κ→D} {g:D→D→Bool} (hg:∀a b,g (f a) (f b)=decide (a=b)) {K:PySem.W.Frag} {mg:Str→Option Value} {μ:Mu} {H:Hp} (k:κ) {d:D} {v:V} (rd:Rep K mg μ H d v) {kvs:List (D × D)} {ks:List κ} {vs:List V} (e:kvs.map (·.1)=ks.map f) (r:RepAll K mg μ H (kvs.map (·.2)) vs) :
    ∃(ks':List κ) (vs':List V),putK (ks.zip vs) k v=ks'.zip vs'∧(if (kvs.any fun p=>g p.1 (f k))=true then kvs.map (fun p=>if g p.1 (f k)=true then (p.1,d) else p) else kvs++[(f k,d)]).map (·.1)=ks'.map f∧
      RepAll K mg μ H ((if (kvs.any fun p=>g p.1 (f k))=true then kvs.map (fun p=>if g p.1 (f k)=true then (p.1,d) else p) else kvs++[(f k,d)]).map (·.2)) vs':=by
  have any:∀ {kvs:List (D × D)} {ks:List κ} {vs:List V},kvs.map (·.1)=ks.map f→RepAll K mg μ H (kvs.map (·.2)) vs→(kvs.any fun p=>g p.1 (f k))=((ks.zip vs).any fun p=>decide (p.1=k)):=by
    intro kvs
    induction kvs with
    | nil=>
      intro ks vs e r
      have:ks=[]:=by cases ks with|nil=>rfl|cons a b=>cases e
      subst this; rfl
    | cons p kvs ih=>
      intro ks vs e r
      cases ks with
      | nil=>cases e
      | cons k' ks=>
        have r:RepAll K mg μ H (p.2::kvs.map (·.2)) vs:=r
        unfold RepAll at r
        obtain ⟨v,q,rfl,r1,r2⟩:=r
        injection e with e1 e2
        rw[List.zip_cons_cons,List.any_cons,List.any_cons,ih e2 r2]
        have e1:p.1=f k':=e1
        rw[e1,hg]
  have mp:∀ {kvs:List (D × D)} {ks:List κ} {vs:List V},kvs.map (·.1)=ks.map f→RepAll K mg μ H (kvs.map (·.2)) vs→
      ∃vs':List V,(ks.zip vs).map (fun p=>if p.1=k then (p.1,v) else p)=ks.zip vs'∧(kvs.map fun p=>if g p.1 (f k)=true then (p.1,d) else p).map (·.1)=ks.map f∧RepAll K mg μ H ((kvs.map fun p=>if g p.1 (f k)=true then (p.1,d) else p).map (·.2)) vs':=by
    intro kvs
    induction kvs with
    | nil=>
      intro ks vs e r
      have:ks=[]:=by cases ks with|nil=>rfl|cons a b=>cases e
      subst this; exact ⟨[],rfl,rfl,.nil⟩
    | cons p kvs ih=>
      intro ks vs e r
      cases ks with
      | nil=>cases e
      | cons k' ks=>
        have r:RepAll K mg μ H (p.2::kvs.map (·.2)) vs:=r
        unfold RepAll at r
        obtain ⟨w,q,rfl,r1,r2⟩:=r
        injection e with e1 e2
        have e1:p.1=f k':=e1
        obtain ⟨vs',h1,h2,h3⟩:=ih e2 r2
        have hgk:g p.1 (f k)=decide (k'=k):=by rw[e1,hg]
        have hf1:(if g p.1 (f k)=true then (p.1,d) else p).1=f k':=by split<;>exact e1
        by_cases hk:k'=k
        · refine ⟨v::vs',?_,?_,?_⟩
          · rw[List.zip_cons_cons,List.map_cons,h1,List.zip_cons_cons]; simp[hk]
          · rw[List.map_cons,List.map_cons,h2,List.map_cons,hf1]
          · rw[List.map_cons,List.map_cons]
            simp only[hgk,hk,decide_true,if_true]
            exact .cons rd h3
        · refine ⟨w::vs',?_,?_,?_⟩
          · rw[List.zip_cons_cons,List.map_cons,h1,List.zip_cons_cons]; simp[hk]
          · rw[List.map_cons,List.map_cons,h2,List.map_cons,hf1]
          · rw[List.map_cons,List.map_cons]
            simp only[hgk,hk,decide_false,Bool.false_eq_true,if_false]
            exact .cons r1 h3
  have ha:=any e r
  unfold putK
  rw[ha]
  by_cases hb:((ks.zip vs).any fun p=>decide (p.1=k))=true
  · rw[if_pos hb,if_pos hb]
    obtain ⟨vs',h1,h2,h3⟩:=mp e r
    exact ⟨ks,vs',h1,h2,h3⟩
  · rw[if_neg hb,if_neg hb]
    have hl:ks.length=vs.length:=by
      have h1:=congrArg List.length e
      have h2:=r.length
      simp only[List.length_map] at h1 h2
      omega
    refine ⟨ks++[k],vs++[v],by rw[List.zip_append hl]; rfl,by simp[e],?_⟩
    rw[List.map_append]
    exact r.append (.cons rd .nil)
theorem put_ok {K:PySem.W.Frag} {mg:Str→Option Value} {μ:Mu} {H:Hp} {t:Bool} {kvs:List (D × D)} {a:Addr} {k d:D} {y v:V} (h:RepO K mg μ H (.dct t kvs) a) (hk:cB t k=true) (rk:Rep K mg μ H k y) (rd:Rep K mg μ H d v) (hl:kvs.length<1000000) :
    ∃ho,DPut H a y v (upd H a ho)∧∀ {μ':Mu},Step μ H μ' (upd H a ho)→RepO K mg μ' (upd H a ho) (.dct t (gR t kvs k d)) a:=by
  cases t with
  | false=>
    obtain ⟨vs,ks,⟨e,q⟩,rs⟩:=h
    obtain ⟨kk,rfl⟩:=pW hk
    rw[iI rk]
    obtain ⟨ks',vs',h1,h2,h3⟩:=jR pV kk rd q rs
    have hz:(ks.zip vs).length<sizeLine:=by rw[jQ q rs,sizeLine_eq]; omega
    refine ⟨_,.k e hz,fun st=>?_⟩
    rw[h1] at *
    exact ⟨vs',ks',⟨upd_same,h2⟩,RepAll.step st _ _ h3⟩
  | true=>
    obtain ⟨vs,ks,⟨e,q⟩,rs⟩:=h
    obtain ⟨kk,rfl⟩:=tC hk
    obtain ⟨b,rfl,hb⟩:=jI rk
    obtain ⟨ks',vs',h1,h2,h3⟩:=jR tB kk rd q rs
    have hz:(ks.zip vs).length<sizeLine:=by rw[jQ q rs,sizeLine_eq]; omega
    refine ⟨_,.t e hb hz,fun st=>?_⟩
    rw[h1] at *
    exact ⟨vs',ks',⟨upd_same,h2⟩,RepAll.step st _ _ h3⟩
def bM (S:Sto) (o i v:D):Option Sto:=match o with
  | .loc l=>match S[l]? with
    | some (.lst xs)=>match i with
      | .int k=>match ixN xs.length k with
        | some j=>some (S.set l (.lst (xs.set j v)))
        | none=>none
      | _=>none
    | some (.dct t kvs)=>if cB t i=true∧kvs.length<1000000 then some (S.set l (.dct t (gR t kvs i v))) else none
    | _=>none
  | _=>none
def rPut (K:PySem.W.Frag) (mg:Str→Option Value):TSet:=fun o i v H Q=>∃μ S od id vd S',RelS K mg μ H S∧Rep K mg μ H od o∧Rep K mg μ H id i∧Rep K mg μ H vd v∧bM S od id vd=some S'∧∀μ' H',Step μ H μ' H'→RelS K mg μ' H' S'→Q H'
section
variable {X:Cx} {W:WX}
theorem xT (hu:X.A.units+1<cLine):PSet X (rPut X.K X.mg):=by
  intro pins s σ H o i v ov iv u Q I ro ri rv ⟨μ,S,od,id,vd,S',rs,rod,rid,rvd,e,q⟩
  unfold bM at e
  split at e
  · rename_i l
    unfold Rep at rod
    obtain ⟨a,rfl,hμ⟩:=rod
    split at e
    · rename_i xs es
      obtain ⟨a',h1,vs,h2,h3⟩:=rs.at_ _ _ es
      rw[hμ] at h1; cases h1
      split at e
      · rename_i k
        unfold Rep at rid
        subst rid
        split at e
        · rename_i j ej
          cases e
          have st:Step μ H μ (upd H a (.lst (vs.set j v))):=Step.write rs hμ (.of h2)
          exact set_list pins s σ H _ _ _ ov iv u Q I ro ri rv ⟨a,vs,k,j,rfl,rfl,h2,by rw[←h3.length]; exact ej,q μ _ st (rs.write hμ (.of h2) ⟨_,upd_same,RepAll.step st _ _ (h3.set rvd j)⟩)⟩
        · cases e
      · cases e
    · rename_i t kvs es
      split at e
      · rename_i hk
        cases e
        obtain ⟨a',h1,h2⟩:=rs.at_ _ _ es
        rw[hμ] at h1; cases h1
        obtain ⟨ho,hp,hr⟩:=put_ok h2 hk.1 rid rvd hk.2
        have nf:NF H a:=by
          cases t<;>(obtain ⟨vs,ks,⟨q,_⟩,_⟩:=h2; exact .of q)
        have st:Step μ H μ (upd H a ho):=Step.write rs hμ nf
        exact set_dict hu pins s σ H _ _ _ ov iv u Q I ro ri rv ⟨a,_,rfl,hp,q μ _ st (rs.write hμ nf (hr st))⟩
      · cases e
    · cases e
  · cases e
def fY (mo mi:ME):MG:=fun v env S=>match mo env S with
  | .ok o S=>match mi env S with
    | .ok i S=>(bM S o i v).map fun S=>(env,S)
    | _=>none
  | _=>none
theorem fE {o i:Expr} {mo mi:ME} {pos:Pos} (hu:X.A.units+1<cLine) (ho:PE X o (tE X (fun _ _ _ _=>False) mo)) (hi:PE X i (tE X (fun _ _ _ _=>False) mi))
    (ha:∀v,assign (.Subscript o i pos) X.env v=(do
      let ov ←holding [v] (eval o X.env)
      let iv ←holding [v,ov] (eval i X.env)
      standAt pos
      holding [v,ov,iv] (setItem ov iv v)
      release [v,ov,iv] []):=by intro v; rfl):PG X (.Subscript o i pos) (tG X (fY mo mi)):=
  pZ (pg_sub ho hi (xT hu) ha) fun v σ H Q ⟨env,S,μ,d,rl,r,o⟩=>by
    unfold fY at o
    refine ⟨env,S,μ,rl,?_⟩
    cases hmo:mo env S with
    | exc a b=>simp only[hmo] at o; exact o.elim
    | stuck=>simp only[hmo] at o; exact o.elim
    | ok od S1=>
      simp only[hmo] at o
      intro μ1 H1 ov st1 rs1 ro
      refine ⟨env,S1,μ1,⟨rl.env.step st1,rs1⟩,?_⟩
      cases hmi:mi env S1 with
      | exc a b=>simp only[hmi] at o; exact o.elim
      | stuck=>simp only[hmi] at o; exact o.elim
      | ok id S2=>
        simp only[hmi] at o
        intro μ2 H2 iv st2 rs2 ri
        cases hs:bM S2 od id d with
        | none=>simp only[hs] at o; exact o.elim
        | some S3=>
          simp only[hs] at o
          exact ⟨μ2,S2,od,id,d,S3,rs2,Rep.step st2 _ _ ro,ri,Rep.step (st1.trans st2) _ _ r,hs,fun μ' H' st rs'=>o μ' H' σ ((st1.trans st2).trans st) (rl.env.step ((st1.trans st2).trans st)) rs'⟩
def eRev (m:ME):ME:=fun env S=>(m env S).bind fun d S=>match view S d with
  | .lst xs=>.ok (.lst xs.reverse) S
  | _=>.stuck
theorem RepAll.reverse {K:PySem.W.Frag} {mg:Str→Option Value} {μ:Mu} {H:Hp}:∀ {ds:List D} {vs:List V},RepAll K mg μ H ds vs→RepAll K mg μ H ds.reverse vs.reverse
  | [],_,h=>by unfold RepAll at h; subst h; exact .nil
  | d::ds,_,h=>by
    unfold RepAll at h
    obtain ⟨v,r,rfl,h1,h2⟩:=h
    rw[List.reverse_cons,List.reverse_cons]
    exact (RepAll.reverse h2).append (.cons h1 .nil)
theorem pe_rev {e st:Expr} {te:TE} {p3 pos:Pos} (he:PE X e te) (hst:∀σ H,∃t,PE X st t∧t σ H fun v H'=>v=.int (-1)∧H'=H):PE X (.Subscript e (.Slice none none (some st) p3) pos) (tRevL X.K te):=by
  refine ⟨fun pins s σ H Q I h=>?_⟩
  refine Subscript_ (thn (he.run pins s σ H _ I h) fun v s1 ⟨x,H1,I1,r1,q1⟩=>?_)
  obtain ⟨a,xs,ex,hx,q⟩:=q1
  subst ex
  cases r1
  refine wpAny_Slice (thn (po_none.run pins s1 σ H1 (fun o H2=>o=none∧H2=H1) I1 ⟨rfl,rfl⟩) fun vl s2 ⟨l,H2,I2,pl,el,e2⟩=>?_)
  subst el e2
  refine thn (po_none.run pins s2 σ H2 (fun o H3=>o=none∧H3=H2) I2 ⟨rfl,rfl⟩) fun vu s3 ⟨u,H3,I3,pu,eu,e3⟩=>?_
  subst eu e3
  obtain ⟨t,ht,hq⟩:=hst σ H3
  refine thn (ht.run pins s3 σ H3 _ I3 hq) fun vs s4 ⟨o,H4,I4,ps,eo,e4⟩=>?_
  subst eo e4
  obtain ⟨tk,ps⟩:=ps
  have ps':IsPart vs (some (-1)):=by rw[ps]; exact .int _ _
  have I5:Inv X pins σ H4 { s4 with heap:=s4.heap.push { cls:=.type "slice",data:=.fields #[vl,vu,vs] } }:=I4.kept (t':=s4.toks) fun b ob q=>Heap.get?_push_of_some _ q
  obtain ⟨its,r,ht,hz⟩:=I5.list hx
  have hlen:=r.length
  show wpAny (model X.prog X.w) X.A (subscriptTail e (.Slice none none (some st) p3) (.ref a) (.ref s4.heap.objs.size)) (EP X pins σ Q) X.xe { s4 with heap:=s4.heap.push { cls:=.type "slice",data:=.fields #[vl,vu,vs] } }
  refine tail_any (ops:=[.ref a,.ref s4.heap.objs.size]) ht.isList.typeIs (PySem.slot_list_getitem.lookup) ?_ (by with_unfolding_all rfl)
  refine wpAny_getItem_list_slice ht.isList (Heap.IsSliceOf.new _ vl vu vs) pl pu ps' (by decide) ?_ (by rw[List.size_toArray]; omega)
  rw[PySem.W.krv_pick]
  refine ⟨.ref _,_,I5.laid (t':=s4.toks) (o:=.lst xs.reverse) (fun b ob q=>Heap.get?_push_of_some _ q) (Nat.le_refl _) ?_,rfl,q _ (I5.hok.fresh (Nat.le_refl _))⟩
  exact ⟨by rw[List.length_reverse]; exact hz,_,0,r.reverse,Heap.get?_push_size _ rfl⟩
theorem t_rev {m:ME} {σ:L2.St} {H:Hp} {Q:VK} (h:tE X W (eRev m) σ H Q):tRevL X.K (tE X W m) σ H Q:=by
  obtain ⟨env,S,μ,rl,o⟩:=h
  refine ⟨env,S,μ,rl,(Out.bind o).mono fun x H1 ⟨μ1,S1,d,st,rs,rd,o1⟩=>?_⟩
  have rw0:=rs.view rd
  split at o1
  · rename_i xs ev
    rw[ev] at rw0
    obtain ⟨a,vs,rfl,h1,h2⟩:=rw0
    exact ⟨a,vs,rfl,.of h1,fun p hp=>o1 μ1 _ (.ref p) (.of_sm (.upd hp)) (rs.sm (.upd hp)) (cA rs hp h2.reverse)⟩
  · exact o1.elim
/-- xs[::0 - 1] -/
theorem sE_rev {e:Expr} {m:ME} {k1 k2:Nat} {p1 p2 p3 p4 pos:Pos} (he:PE X e (tE X W m)):PE X (.Subscript e (.Slice none none (some (.BinOp (.Constant (.int 0) k1 p1) .Sub (.Constant (.int 1) k2 p2) p4)) p3) pos) (tE X W (eRev m)):=
  bt (pe_rev he fun σ H=>⟨_,pe_op op_sub pe_int pe_int,⟨0,1,rfl,rfl,rfl,rfl⟩⟩) fun σ H Q h=>t_rev h
end
end DL
namespace DL
open PySem PySem.Spec PyProof.Rows L2
section
variable {K:PySem.W.Frag} {mg:Str→Option Value} {μ:Mu} {H:Hp} {S:Sto}
theorem Stp.reveal {p:Addr} {h':List Addr} (hp:p∈μ.h) (hs:∀a∈h',a∈μ.h):Stp μ H ⟨μ.l++[p],h'⟩ H:=
  ⟨⟨⟨[p],rfl⟩,fun a ha=>.inl (by
    rcases ha with z|z
    · rcases List.mem_append.mp z with e|e
      · exact .inl e
      · have:a=p:=by simpa using e
        subst this; exact .inr hp
    · exact .inr (hs a z)),fun _ _ e _ _=>e⟩,fun _ _ _ e=>e⟩
theorem RelS.reveal {p:Addr} {o:O} {h':List Addr} (rs:RelS K mg μ H S) (hp:p∈μ.h) (hs:∀a∈h',a∈μ.h) (hn:p∉h') (r:RepO K mg μ H o p):RelS K mg ⟨μ.l++[p],h'⟩ H (S++[o]):=by
  have np:p∉μ.l:=fun z=>rs.dis p z hp
  have st:Stp μ H ⟨μ.l++[p],h'⟩ H:=.reveal hp hs
  refine ⟨by simp[rs.len],List.nodup_append.mpr ⟨rs.nd,by simp,fun a ha b hb=>?_⟩,fun a ha z=>?_,fun a ha=>rs.hid a (hs a ha),fun l u e=>?_,rs.tab⟩
  · have:b=p:=by simpa using hb
    subst this
    exact fun z=>np (z▸ha)
  · rcases List.mem_append.mp ha with e|e
    · exact rs.dis a e (hs a z)
    · have:a=p:=by simpa using e
      subst this; exact hn z
  · by_cases hl:l<S.length
    · rw[List.getElem?_append_left hl] at e
      obtain ⟨a,h1,h2⟩:=rs.at_ l u e
      exact ⟨a,st.get h1,h2.step st fun w q=>q⟩
    · rw[List.getElem?_append_right (by omega)] at e
      have hl2:l - S.length=0:=by
        have:=(List.getElem?_eq_some_iff.mp e).1
        simp at this; omega
      rw[hl2] at e
      simp at e
      subst e
      have:l=S.length:=by omega
      subst this
      exact ⟨p,by rw[rs.len]; simp,r.step st fun w q=>q⟩
end
def dle (a b:D):Bool:=PySem.W.dataLe false pdF a b
def eS (xs:List D):Bool:=xs.all (dok 60)&&(xs.all fun a=>xs.all fun b=>PySem.W.alike (pdF a) (pdF b)) &&
  ((xs.all fun a=>match a with
    | .tup (_::_)=>true
    | .tpn (_::_)=>true
    | _=>false)||xs.all fun a=>match a with
    | .tup _=>false
    | .tpn _=>false
    | .none=>false
    | _=>true)
def dU (S:Sto) (d:D):Option (List D):=match view S d with
  | .lst xs=>some xs
  | .ro xs=>some xs
  | _=>none
def dW (S:Sto) (ds:List D):Option D:=match ds with
  | [d]=>match dU S d with
    | some xs=>if eS xs=true∧xs.length≤1000000 then some (.lst (xs.mergeSort dle)) else none
    | none=>none
  | _=>none
section
variable {K:PySem.W.Frag} {mg:Str→Option Value} {μ:Mu} {H:Hp} {S:Sto}
theorem nQ (rs:RelS K mg μ H S) {d:D} {v:V} {xs:List D} (r:Rep K mg μ H d v) (e:dU S d=some xs):∃a vs,v=.ref a∧SqL K H a vs∧RepAll K mg μ H xs vs:=by
  unfold dU at e
  have rw0:=rs.view r
  split at e
  · rename_i ev
    cases e
    rw[ev] at rw0
    obtain ⟨a,vs,rfl,h1,h2⟩:=rw0
    exact ⟨a,vs,rfl,.of h1,h2⟩
  · rename_i ev
    cases e
    rw[ev] at rw0
    have rw0:Rep K mg μ H (.ro xs) v:=rw0
    unfold Rep at rw0
    obtain ⟨a,vs,rfl,h1,h2⟩:=rw0
    exact ⟨a,vs,rfl,h1.sq,h2⟩
  · cases e
theorem iw {xs:List D} (h:eS xs=true):PySem.W.AllAlike (xs.map pdF)∧PySem.W.Sortable (xs.map pdF)∧∀d∈xs,dok 60 d=true:=by
  unfold eS at h
  simp only[Bool.and_eq_true,Bool.or_eq_true,List.all_eq_true] at h
  obtain ⟨⟨h1,h2⟩,h3⟩:=h
  refine ⟨fun d hd d' hd'=>?_,?_,h1⟩
  · obtain ⟨a,ha,rfl⟩:=List.mem_map.mp hd
    obtain ⟨b,hb,rfl⟩:=List.mem_map.mp hd'
    exact h2 a ha b hb
  · rcases h3 with h3|h3
    · refine .inl fun d hd=>?_
      obtain ⟨a,ha,rfl⟩:=List.mem_map.mp hd
      have:=h3 a ha
      split at this
      · exact ⟨_,_,by unfold pdF; unfold pdFs; rfl⟩
      · exact ⟨_,_,by unfold pdF; unfold pdFs; rfl⟩
      · cases this
    · refine .inr fun d hd=>?_
      obtain ⟨a,ha,rfl⟩:=List.mem_map.mp hd
      have h4:=h3 a ha
      have h5:=h1 a ha
      cases a with
      | tup xs=>simp at h4
      | tpn xs=>simp at h4
      | none=>simp at h4
      | bool b=>unfold pdF; exact ⟨nofun,nofun⟩
      | int b=>unfold pdF; exact ⟨nofun,nofun⟩
      | str b=>unfold pdF; exact ⟨nofun,nofun⟩
      | lst b=>unfold pdF; exact ⟨nofun,nofun⟩
      | ty n=>cases h5
      | ro n=>cases h5
      | loc n=>cases h5
      | glo n=>cases h5
      | adr n=>cases h5
      | clo n=>cases h5
      | exn n=>cases h5
theorem hO:∀ {ds:List D} {vs:List V},ds.length=vs.length→(ds.zip vs).map (·.1)=ds
  | [],[],_=>rfl
  | d::ds,v::vs,h=>by rw[List.zip_cons_cons,List.map_cons,hO (by simpa using h)]
theorem ix:∀ {ds:List D} {vs:List V},RepAll K mg μ H ds vs→∀p∈ds.zip vs,Rep K mg μ H p.1 p.2
  | [],vs,r,p,hp=>by simp at hp
  | d::ds,vs,r,p,hp=>by
    unfold RepAll at r
    obtain ⟨v,q,rfl,h1,h2⟩:=r
    rw[List.zip_cons_cons] at hp
    rcases List.mem_cons.mp hp with e|e
    · subst e; exact h1
    · exact ix h2 p e
theorem j4:∀ {ps:List (D × V)},(∀p∈ps,Rep K mg μ H p.1 p.2)→RepAll K mg μ H (ps.map (·.1)) (ps.map (·.2))
  | [],_=>.nil
  | p::ps,h=>.cons (h p List.mem_cons_self) (j4 fun q hq=>h q (List.mem_cons_of_mem _ hq))
/-- what sorting makes of values alike -/
theorem p8:∀ {ds:List D} {vs:List V} {us:List Value},ds.length=vs.length→Vals vs us→PySem.W.EachIs (fun u (p:D × V)=>L2.RelV p.2 u) us (ds.zip vs)
  | [],[],_,_,r=>by cases r; exact .nil
  | d::ds,v::vs,_,h,r=>by
    cases r with
    | cons h1 h2=>
      rw[List.zip_cons_cons]
      exact .cons h1 (p8 (by simpa using h) h2)
theorem nS:∀ {us:List Value} {ps:List (D × V)},PySem.W.EachIs (fun u (p:D × V)=>L2.RelV p.2 u) us ps→Vals (ps.map (·.2)) us
  | _,_,.nil=>.nil
  | _,_,.cons h t=>.cons h (nS t)
end
section
variable {X:Cx}
theorem lz {pins:List (Addr × Obj)} {s:Shared} {σ:L2.St} {H:Hp} {μ:Mu} (I:L2.Inv X pins σ H s):∀ {ds:List D} {vs:List V} {us:List Value},(∀d∈ds,dok 60 d=true)→RepAll X.K X.mg μ H ds vs→Vals vs us→PySem.W.EachIs (fun u (p:D × V)=>∃as,Reads s.heap u (pdF p.1) as) us (ds.zip vs)
  | [],vs,us,_,ra,r=>by
    unfold RepAll at ra; subst ra; cases r; exact .nil
  | d::ds,vs,us,h,ra,r=>by
    unfold RepAll at ra
    obtain ⟨v,q,rfl,h1,h2⟩:=ra
    cases r with
    | cons r1 r2=>
      rw[List.zip_cons_cons]
      exact .cons (Dp.reads I _ _ _ (fU 60 d v (h d List.mem_cons_self) h1.w) r1) (lz I (fun x hx=>h x (List.mem_cons_of_mem _ hx)) h2 r2)
theorem mt {ds:List D} {vs:List V} (h:ds.length=vs.length):((ds.zip vs).mergeSort (PySem.W.dataLe false fun p=>pdF p.1)).map (·.1)=ds.mergeSort dle:=by
  rw[List.map_mergeSort (s:=dle)]
  · rw[hO h]
  · intro a ha b hb
    rfl
theorem hV (hu:X.A.units+65<cLine):CallR X (.builtin "sorted") (rB X.K X.mg dW):=by
  intro pins s σ H xs us Q I rx ⟨μ,S,ds,d,rs,ra,e,q⟩
  unfold dW at e
  split at e
  · rename_i d0
    obtain ⟨v,rfl,r1⟩:=cU ra
    split at e
    · rename_i zs ez
      split at e
      · rename_i hk
        cases e
        obtain ⟨a,vs,rfl,hs,rz⟩:=nQ rs r1 ez
        obtain ⟨h1,h2,h3⟩:=iw hk.1
        obtain ⟨its,rv,hl,hz⟩:=I.list hs
        rw[Vals.ref1 rx]
        have hlen:=rz.length
        have en:(zs.zip vs).map (fun p:D × V=>pdF p.1)=zs.map pdF:=by
          conv=>rhs; rw[←hO hlen,List.map_map]
          rfl
        refine PySem.W.sorted_data (R:=fun u (p:D × V)=>L2.RelV p.2 u) (bs:=zs.zip vs) (enc:=fun p=>pdF p.1) hl.isList (p8 hlen rv) (lz I h3 rz rv) (by rw[en]; exact h1) (by rw[en]; exact h2)
          (by rw[List.length_zip,hlen,Nat.min_self]; exact hz) (fun b hb=>?_) fun out ho he=>?_
        · have:=(dz 60 b.1 (h3 _ (List.of_mem_zip hb).1)).2
          omega
        · obtain ⟨ep,he'⟩:=PyProof.Rows.sortedAll_at s.heap its out.toArray
          have rv':=nS he
          have hp:∀p∈(zs.zip vs).mergeSort (PySem.W.dataLe false fun p=>pdF p.1),Rep X.K X.mg μ H p.1 p.2:=fun p hp=>ix rz p (List.mem_mergeSort.mp hp)
          have rr:=j4 hp
          rw[mt hlen] at rr
          have hn:H (s.heap.objs.size+1)=none:=I.hok.fresh (Nat.le_succ _)
          refine ⟨.ref _,upd H (s.heap.objs.size+1) (.lst (((zs.zip vs).mergeSort (PySem.W.dataLe false fun p=>pdF p.1)).map (·.2))),I.laid (t':=s.toks) (fun _ _=>PyProof.Rows.sortedAll_old) (Nat.le_succ _) ⟨?_,out,ep,rv',he'⟩,rfl,q _ _ (.upd hn) (cA rs hn rr)⟩
          rw[List.length_map,List.length_mergeSort,List.length_zip,hlen,Nat.min_self]
          exact hz
      · cases e
    · cases e
  · cases e
theorem RepAll.dropLast {K:PySem.W.Frag} {mg:Str→Option Value} {μ:Mu} {H:Hp} {ds:List D} {vs:List V} (r:RepAll K mg μ H ds vs):RepAll K mg μ H ds.dropLast vs.dropLast:=by
  rw[List.dropLast_eq_take,List.dropLast_eq_take,r.length]
  exact r.take _
theorem m_pop:MtR X "list.pop" (rM X.K X.mg bPop):=vS mt_pop fun x xs H Q ⟨μ,S,d,ds,r,S',rs,rd,rds,e,q⟩=>by
  unfold bPop at e
  split at e
  · rename_i l
    unfold Rep at rd
    obtain ⟨ad,rfl,hμ⟩:=rd
    unfold RepAll at rds
    subst rds
    split at e
    · rename_i ys es
      split at e
      · rename_i a ea
        cases e
        obtain ⟨a',h1,vs,h2,h3⟩:=rs.at_ _ _ es
        rw[hμ] at h1; cases h1
        obtain ⟨v,hv,rv⟩:=h3.get ea
        have st:Step μ H μ (upd H ad (.lst vs.dropLast)):=Step.write rs hμ (.of h2)
        refine ⟨ad,vs,v,rfl,rfl,h2,by rw[←h3.length]; exact hv,q μ _ v st (rs.write hμ (.of h2) ⟨_,upd_same,RepAll.step st _ _ h3.dropLast⟩) (Rep.step st _ _ rv)⟩
      · cases e
    · cases e
  · cases e
end
def rf:D→Option (D × D)
  | .tup [k,v]=>if cB false k=true then some (k,v) else none
  | _=>none
def eD:List D→Option (List (D × D))
  | []=>some []
  | d::ds=>match rf d,eD ds with
    | some p,some ps=>some (p::ps)
    | _,_=>none
def dj (kvs:List (D × D)):List (D × D)→List (D × D)
  | []=>kvs
  | p::ps=>dj (gR false kvs p.1 p.2) ps
def oZ (r:MA):ME:=fun env S=>(r env S).bind fun ds S=>match ds with
  | [.tpn xs]=>match eD xs with
    | some ps=>if xs.length≤1000000 then .ok (.loc S.length) (S++[.dct false (dj [] ps)]) else .stuck
    | none=>.stuck
  | _=>.stuck
section
variable {X:Cx}
theorem vT {pins:List (Addr × Obj)} {σ:L2.St} {H:Hp} {s:Shared} (I:L2.Inv X pins σ H s):∀ {ps:List Addr} {kvs:List (Key × V)},Paired (fun p kv=>SqT X.K H p [kV kv.1,kv.2]) ps kvs→
    ∃(prs:List (Key × Value)) (uvs:List (Value × Value)),KV kvs prs∧prs.length=ps.length∧uvs.length=ps.length∧∀(j:Nat) (u v:Value),uvs[j]?=some (u,v)→∃(b:Addr) (k:Key),ps[j]?=some b∧IsTup s.heap b #[u,v]∧keyIs k u=true∧prs[j]?=some (k,v)
  | _,_,.nil=>⟨[],[],.nil,rfl,rfl,fun j u v e=>by simp at e⟩
  | _,_,.cons (a:=p) (b:=kv) h t=>by
    obtain ⟨prs,uvs,r,hl,hl2,hp⟩:=vT I t
    obtain ⟨its,rv,ht,_⟩:=I.tuple h
    obtain ⟨u,y,ei,ru,ry⟩:=vals2 rv
    subst ei
    refine ⟨(kv.1,y)::prs,(u,y)::uvs,.cons ⟨rfl,ry⟩ r,by rw[List.length_cons,List.length_cons,hl],by rw[List.length_cons,List.length_cons,hl2],fun j u' v' e=>?_⟩
    cases j with
    | zero=>
      have e':(u,y)=(u',v'):=Option.some.inj e
      cases e'
      exact ⟨p,kv.1,rfl,ht,kV_is (P:=X.prog) (w:=X.w) ru,rfl⟩
    | succ j=>
      obtain ⟨b,k,e1,e2,e3,e4⟩:=hp j u' v' (by simpa using e)
      exact ⟨b,k,by simpa using e1,e2,e3,by simpa using e4⟩
theorem p9 (hcalm:X.calm=true):CallR X (.type "dict") (fun xs H Q=>∃(a:Addr) (o:Obj) (ps:List Addr) (kvs:List (Key × V)),xs=[.ref a]∧H a=some (.frz o (.tup (ps.map V.ref)))∧o.dict=none∧Paired (fun p kv=>SqT X.K H p [kV kv.1,kv.2]) ps kvs∧
    ∀p,H p=none→Q (.ref p) (upd H p (.dK (mergeK [] kvs)))):=by
  intro pins s σ H xs us Q I r q
  obtain ⟨a,o,ps,kvs,ex,hq,hd,hp,q⟩:=q
  subst ex
  obtain ⟨u,eu,rx⟩:=vals1 r
  subst eu
  cases rx
  obtain ⟨ho,hz,its,rv,o',ho',hc,n,hdat⟩:=I.hok a _ hq
  rw[ho] at ho'; cases ho'
  have ei:=refs_at rv
  subst ei
  rw[List.length_map] at hz
  obtain ⟨prs,uvs,rel,hl,hl2,hpr⟩:=vT I hp
  have at_:∀(j:Nat) (k v:Value),uvs[j]?=some (k,v)→(List.toArray (ps.map Value.ref))[j]?=some (.ref ((ps[j]?).getD 0))∧PySem.PairAt s.heap ((ps[j]?).getD 0) k v:=fun j k v e=>by
    obtain ⟨b,kk,e1,e2,e3,e4⟩:=hpr j k v e
    refine ⟨?_,?_⟩
    · simp[e1]
    · rw[e1]; exact .inl e2
  refine PySem.call_dict_pairs (knd:=mixKind X.prog X.w) (kvs:=prs) (PySem.PairArg.tuple a (List.toArray (ps.map Value.ref)) (fun j=>(ps[j]?).getD 0) uvs) (I.ok.hd hcalm) ⟨⟨o,n,ho,hc,hd,hdat⟩,⟨by simp[hl2],at_⟩⟩ ⟨by rw[hl,hl2],fun i key v e=>?_⟩ (by rw[hl2]; exact hz) fun h' tk hd' k=>?_
  · obtain ⟨b,kk,e1,e2,e3,e4⟩:=hpr i key v e
    exact ⟨kk,e4,e3⟩
  · have hm:(s.heap.objs.size == sysModules)=false:=beq_eq_false_iff_ne.mpr (Nat.ne_of_gt I.big)
    have hlen:(mergeK [] kvs).length≤sizeLine:=by
      refine Nat.le_trans (length_mergeK kvs []) ?_
      rw[List.length_nil,Nat.zero_add,rel.length,hl]
      exact hz
    exact ⟨.ref s.heap.objs.size,upd H s.heap.objs.size (.dK (mergeK [] kvs)),I.laid (t':=tk) (fun b o e=>k b o (by simp) e) (Nat.le_refl _) (show ObjOk X.prog X.w _ _ _ (.dK (mergeK [] kvs)) from ⟨hlen,hm,merged [] prs,KV.merge rel .nil,hd'⟩),rfl,q _ (I.hok.fresh (Nat.le_refl _))⟩
end
section
variable {K:PySem.W.Frag} {mg:Str→Option Value} {μ:Mu} {H:Hp}
theorem nT:∀ {xs:List D} {vs:List V} {ps:List (D × D)},RepAll K mg μ H xs vs→eD xs=some ps→∃(as:List Addr) (kvs:List (Key × V)),vs=as.map V.ref∧Paired (fun p kv=>SqT K H p [kV kv.1,kv.2]) as kvs∧ps.map (·.1)=kvs.map (fun kv=>de kv.1)∧RepAll K mg μ H (ps.map (·.2)) (kvs.map (·.2))
  | [],vs,ps,r,e=>by
    unfold RepAll at r; subst r; cases e
    exact ⟨[],[],rfl,.nil,rfl,.nil⟩
  | d::ds,vs,ps,r,e=>by
    unfold RepAll at r
    obtain ⟨v,q,rfl,r1,r2⟩:=r
    unfold eD at e
    split at e
    · rename_i p ps' ep eps
      cases e
      obtain ⟨as,kvs,rfl,h1,h2,h3⟩:=nT r2 eps
      unfold rf at ep
      split at ep
      · rename_i k w
        split at ep
        · rename_i hk
          cases ep
          obtain ⟨kk,rfl⟩:=pW hk
          unfold Rep at r1
          obtain ⟨a,vs,rfl,g1,gn,g2⟩:=r1
          obtain ⟨u1,u2,rfl,k1,k2⟩:=iL g2
          rw[iI k1] at g1
          exact ⟨a::as,(kk,u2)::kvs,rfl,.cons (.of g1) h1,by rw[List.map_cons,List.map_cons,h2],.cons k2 h3⟩
        · cases ep
      · cases ep
    · cases e
theorem tX:∀ {ps:List (D × D)} {kvs:List (Key × V)} {ds:List (D × D)} {acc:List (Key × V)},ps.map (·.1)=kvs.map (fun kv=>de kv.1)→RepAll K mg μ H (ps.map (·.2)) (kvs.map (·.2))→(∃ks vs,acc=List.zip ks vs∧ds.map (·.1)=ks.map de∧RepAll K mg μ H (ds.map (·.2)) vs)→
    ∃ks vs,mergeK acc kvs=List.zip ks vs∧(dj ds ps).map (·.1)=ks.map de∧RepAll K mg μ H ((dj ds ps).map (·.2)) vs
  | [],kvs,ds,acc,e,r,h=>by
    have:kvs=[]:=by cases kvs with|nil=>rfl|cons a b=>cases e
    subst this; exact h
  | p::ps,kvs,ds,acc,e,r,⟨ks,vs,h1,h2,h3⟩=>by
    cases kvs with
    | nil=>cases e
    | cons kv kvs=>
      have r:RepAll K mg μ H (p.2::ps.map (·.2)) (kv.2::kvs.map (·.2)):=r
      unfold RepAll at r
      obtain ⟨v,q,ee,r1,r2⟩:=r
      cases ee
      injection e with e1 e2
      have e1:p.1=de kv.1:=e1
      subst h1
      obtain ⟨ks',vs',g1,g2,g3⟩:=jR pV kv.1 r1 h2 h3
      refine tX (ds:=gR false ds p.1 p.2) (acc:=putK (ks.zip vs) kv.1 kv.2) e2 r2 ⟨ks',vs',g1,?_,?_⟩
      · unfold gR; rw[e1]; exact g2
      · unfold gR; rw[e1]; exact g3
end
section
variable {X:Cx} {W:WX} {e:Expr} {p pos:Pos} {r:MA}
theorem vU (hcalm:X.calm=true) (hg:Gl X "dict") (hm:X.mg "dict"=none) (hv:bootBuiltins "dict"=some (.type "dict")) (ha:PA X [e] (tAs X W r))
    (he:starEach [e] X.env=(false,eval e X.env)::starEach [] X.env:=by rfl) (hpl:(backTo pos (starEach [] X.env)).any (·.1)=false:=by rfl):PE X (.Call (.Name "dict" p) [e] [] pos) (tE X W (oZ r)):=
  bt (pe_callTy (p9 hcalm) hg hm hv ha (by decide) (by decide) he hpl) fun σ H Q ⟨env,S,μ,rl,o⟩=>⟨env,S,μ,rl,(Out.bind o).mono fun vs H1 ⟨μ1,S1,ds,st,rs,rd,o1⟩=>by
    split at o1
    · rename_i xs
      split at o1
      · rename_i ps ep
        split at o1
        · obtain ⟨v,rfl,r1⟩:=cU rd
          unfold Rep at r1
          obtain ⟨a,ws,o,rfl,⟨h1,hd⟩,n,h2⟩:=r1
          obtain ⟨as,kvs,rfl,g1,g2,g3⟩:=nT h2 ep
          refine ⟨a,o,as,kvs,rfl,h1,hd,g1,fun p hp=>?_⟩
          obtain ⟨ks,vs,m1,m2,m3⟩:=tX (ds:=[]) (acc:=[]) g2 g3 ⟨[],[],rfl,rfl,.nil⟩
          obtain ⟨x,y,z⟩:=lK (o:=.dct false (dj [] ps)) (ho:=.dK (mergeK [] kvs)) rs hp ⟨vs,ks,⟨by rw[upd_same,m1],m2⟩,RepAll.step (.new_loc hp) _ _ m3⟩
          exact o1 _ _ _ x y z
        · exact o1.elim
      · exact o1.elim
    · exact o1.elim⟩
end
end DL
namespace DL
open PySem PySem.Spec PyProof.Rows L2
def j5 (g:MG) (tc:MT) (mk mv:ME) (w:En) (d:D) (acc:List (D × D)) (S:Sto):Res (List (D × D)):=match g d w S with
  | none=>.stuck
  | some p=>(tc p.1 p.2).bindS fun c S2=>if c=true then (mk p.1 S2).bindS fun k S3=>(mv p.1 S3).bindS fun v S4=>if cB false k=true∧acc.length<1000000 then .ok (gR false acc k v) S4 else .stuck else .ok acc S2
def eT (g:MG) (tc:MT) (mk mv:ME) (w:En):List D→List (D × D)→Sto→Res (List (D × D))
  | [],acc,S=>.ok acc S
  | d::ds,acc,S=>(j5 g tc mk mv w d acc S).bindS fun acc S=>eT g tc mk mv w ds acc S
/-- a dict laid -/
def kD:List (D × D)→Sto→Res D:=fun kvs S=>.ok (.loc S.length) (S++[.dct false kvs])
def l5 (mi:MI) (g:MG) (tc:MT) (mk mv:ME) (vs:List Nat):ME:=fun env S=>(mi env S).bind fun it S=>match it with
  | .items ds=>(eT g tc mk mv (ao env vs) ds [] S).bind kD
  | .live _=>.stuck
  | .liveE _=>.stuck
section
variable {X:Cx} {W:WX} {e tg iter elt kx vx:Expr} {pos:Pos} {g:MG} {m mk mv:ME} {mi:MI} {tc:MT} {vs:List Nat}
/-- a dict that is being made -/
def DOk (K:PySem.W.Frag) (mg:Str→Option Value) (μ:Mu) (H:Hp) (p:Addr) (acc:List (D × D)):Prop:=∃(ks:List Key) (vs:List V),H p=some (.dK (ks.zip vs))∧acc.map (·.1)=ks.map de∧RepAll K mg μ H (acc.map (·.2)) vs
theorem xU {W:WX} {vs:List Nat} {σ:L2.St} {w:En} {p:Addr} {Q:V→Hp→Prop} {μ1 μ2:Mu} {H1 H2:Hp} {S2:Sto} {d:D} {x:V} {acc:List (D × D)} {N:Hp→Prop} {f:List (D × D)→Sto→Res D}
    (re:RelE X.K X.mg μ2 H2 w (L2.wipe σ vs)) (rs:RelS X.K X.mg μ2 H2 S2) (hp:DOk X.K X.mg μ2 H2 p acc) (np:p∈μ2.h) (rx:Rep X.K X.mg μ2 H2 d x)
    (o:Out X.K X.mg W σ μ1 H1 (fun μ H a b=>Rep X.K X.mg μ H a b) Q ((j5 g tc mk mv w d acc S2).bindS f))
    (hN:∀μ3 H3 S3 acc',StP p μ2 H2 μ3 H3→RelS X.K X.mg μ3 H3 S3→DOk X.K X.mg μ3 H3 p acc'→Out X.K X.mg W σ μ1 H1 (fun μ H a b=>Rep X.K X.mg μ H a b) Q (f acc' S3)→N H3) :
    tGc X vs g x (L2.wipe σ vs) H2 fun σ2 H3=>L2.wipe σ2 vs=L2.wipe σ vs∧tT X W0 tc σ2 H3 fun b H4=>if b=true then tE X W0 mk σ2 H4 fun y H5=>tE X W0 mv σ2 H5 fun z H6=>∃kvs k,y=kV k∧H6 p=some (.dK kvs)∧kvs.length<sizeLine∧N (upd H6 p (.dK (putK kvs k z))) else N H4:=by
  refine ⟨w,S2,μ2,d,⟨re,rs⟩,rx,?_⟩
  unfold j5 at o
  obtain ⟨ks,us,hp,hk,ra⟩:=hp
  cases hg:g d w S2 with
  | none=>simp only[hg,Res.bindS] at o; exact o.elim
  | some q=>
    obtain ⟨e,Se⟩:=q
    simp only[hg] at o
    intro μ3 H3 σ3 st3 re3 rs3 hw
    refine ⟨hw.trans (e7 vs vs σ fun i hi=>hi),e,Se,μ3,⟨re3,rs3⟩,?_⟩
    have hp3:=st3.hk _ _ np hp
    have np3:p∈μ3.h:=by rw[st3.hid]; exact np
    have ra3:=RepAll.step st3 _ _ ra
    cases htc:tc e Se with
    | exc a b=>simp only[htc,Res.bindS] at o; exact o.elim
    | stuck=>simp only[htc,Res.bindS] at o; exact o.elim
    | ok c S4=>
      simp only[htc,Res.bindS] at o
      intro μ4 H4 b st4 rs4 hb
      subst hb
      have hp4:=st4.hk _ _ np3 hp3
      have np4:p∈μ4.h:=by rw[st4.hid]; exact np3
      have ra4:=RepAll.step st4 _ _ ra3
      cases b with
      | false=>
        simp only[Bool.false_eq_true,if_false] at o ⊢
        exact hN μ4 H4 S4 acc (.of (st3.trans st4)) rs4 ⟨ks,us,hp4,hk,ra4⟩ o
      | true=>
        simp only[if_true] at o ⊢
        refine ⟨e,S4,μ4,⟨re3.step st4,rs4⟩,?_⟩
        cases hm:mk e S4 with
        | exc a b=>simp only[hm,Res.bindS] at o; exact o.elim
        | stuck=>simp only[hm,Res.bindS] at o; exact o.elim
        | ok kd S5=>
          simp only[hm,Res.bindS] at o
          intro μ5 H5 y st5 rs5 ry
          have hp5:=st5.hk _ _ np4 hp4
          have np5:p∈μ5.h:=by rw[st5.hid]; exact np4
          have ra5:=RepAll.step st5 _ _ ra4
          refine ⟨e,S5,μ5,⟨(re3.step st4).step st5,rs5⟩,?_⟩
          cases hv:mv e S5 with
          | exc a b=>simp only[hv,Res.bindS] at o; exact o.elim
          | stuck=>simp only[hv,Res.bindS] at o; exact o.elim
          | ok v S6=>
            simp only[hv,Res.bindS] at o
            intro μ6 H6 z st6 rs6 rz
            have hp6:=st6.hk _ _ np5 hp5
            have np6:p∈μ6.h:=by rw[st6.hid]; exact np5
            have ra6:=RepAll.step st6 _ _ ra5
            by_cases hl:cB false kd=true∧acc.length<1000000
            · simp only[hl,and_self,if_true] at o
              obtain ⟨kk,rfl⟩:=pW hl.1
              obtain ⟨ks',vs',h1,h2,h3⟩:=jR pV kk rz hk ra6
              have sw:StP p μ6 H6 μ6 (upd H6 p (.dK (putK (ks.zip us) kk z))):=.write np6 (.of hp6)
              refine ⟨_,kk,iI ry,hp6,?_,?_⟩
              · rw[jQ hk ra,sizeLine_eq]; omega
              · exact hN μ6 _ S6 _ ((StP.of (((st3.trans st4).trans st5).trans st6)).trans sw) (rs6.write_hid np6) ⟨ks',vs',by rw[upd_same,h1],h2,RepAll.stp sw.toStp _ _ h3⟩ o
            · simp only[hl,if_false] at o; exact o.elim
theorem dc_sem {own:List (Str × Nat)} {σ:L2.St} {H:Hp} {Q:VK} {W:WX} (h:tE X W (l5 mi g tc mk mv (own.map (·.2))) σ H Q) :
    tDc (tI X W mi) (tGc X (own.map (·.2)) g) (tT X W0 tc) (tE X W0 mk) (tE X W0 mv) (own.map (·.2)) σ H Q:=by
  obtain ⟨env,S,μ,rl,o⟩:=h
  generalize own.map (·.2)=vs at *
  refine ⟨env,S,μ,rl,(Out.bind o).mono fun J H1 ⟨μ1,S1,it,st,rs,rd,o1⟩ p hp=>?_⟩
  have rw1:RelE X.K X.mg μ1 H1 (ao env vs) (L2.wipe σ vs):=(rl.env.step st).wipe vs
  generalize ao env vs=w at *
  have sh:Stp μ1 H1 (μ1.hide p) (upd H1 p (.dK [])):=.new_hid hp
  have fin:∀(μ2:Mu) (H2:Hp) (S2:Sto) (acc:List (D × D)),StP p (μ1.hide p) (upd H1 p (.dK [])) μ2 H2→RelS X.K X.mg μ2 H2 S2→DOk X.K X.mg μ2 H2 p acc→Out X.K X.mg W σ μ1 H1 (fun μ H a b=>Rep X.K X.mg μ H a b) Q (Res.bind (.ok acc S2) kD)→Q (.ref p) H2:=by
    intro μ2 H2 S2 acc sp rs2 ⟨ks,us,hp2,hk2,ra⟩ o
    have hpm:p∈μ2.h:=by rw[sp.hid]; exact List.mem_cons_self
    have sub:∀a∈μ1.h,a∈μ2.h:=fun a ha=>by rw[sp.hid]; exact List.mem_cons_of_mem _ ha
    have su:Stp μ2 H2 ⟨μ2.l++[p],μ1.h⟩ H2:=.reveal hpm sub
    have rr:=rs2.reveal (o:=.dct false acc) hpm sub (rs.notinH hp) ⟨us,ks,⟨hp2,hk2⟩,ra⟩
    refine o ⟨μ2.l++[p],μ1.h⟩ H2 (.ref p) ⟨(sh.trans sp.toStp).trans su,rfl,fun a u ha e nt=>sp.hk a u (ne_of_none e hp) (List.mem_cons_of_mem _ ha) (by rw[upd_ne (ne_of_none e hp)]; exact e) nt⟩ rr ?_
    unfold Rep
    exact ⟨p,rfl,by rw[rs2.len]; simp⟩
  have npm:∀ {μ2:Mu} {H2:Hp},StP p (μ1.hide p) (upd H1 p (.dK [])) μ2 H2→p∈μ2.h:=fun sp=>by rw[sp.hid]; exact List.mem_cons_self
  have st0:StP p (μ1.hide p) (upd H1 p (.dK [])) (μ1.hide p) (upd H1 p (.dK [])):=.of .refl
  cases it with
  | items ds=>
    have rd:dM X.K X.mg μ1 H1 ds J:=rd
    refine ⟨fun i n H=>n+i=ds.length∧∃μ S acc,StP p (μ1.hide p) (upd H1 p (.dK [])) μ H∧RelS X.K X.mg μ H S∧DOk X.K X.mg μ H p acc∧Out X.K X.mg W σ μ1 H1 (fun μ H a b=>Rep X.K X.mg μ H a b) Q ((eT g tc mk mv w (ds.drop i) acc S).bind kD),
      ⟨ds.length,rfl,_,S1,[],st0,rs.hide hp,⟨[],[],upd_same,rfl,.nil⟩,o1⟩,?_⟩
    rintro i n H ⟨hn,μ,S,acc,sp,rs,hpp,o⟩
    have sb:Stp μ1 H1 μ H:=sh.trans sp.toStp
    by_cases hi:i<ds.length
    · have ed:ds.drop i=ds[i]::ds.drop (i+1):=List.drop_eq_getElem_cons hi
      rw[ed] at o
      unfold eT at o
      have o:Out X.K X.mg W σ μ1 H1 (fun μ H a b=>Rep X.K X.mg μ H a b) Q ((j5 g tc mk mv w ds[i] acc S).bindS fun acc S=>(eT g tc mk mv w (ds.drop (i+1)) acc S).bind kD):=by
        cases hq:j5 g tc mk mv w ds[i] acc S with
        | ok a b=>rw[hq] at o; exact o
        | exc a b=>rw[hq] at o; exact o
        | stuck=>rw[hq] at o; exact o
      refine .inr ⟨rd.goes i μ H hi sb,fun H=>∃μ S acc,StP p (μ1.hide p) (upd H1 p (.dK [])) μ H∧RelS X.K X.mg μ H S∧DOk X.K X.mg μ H p acc∧Out X.K X.mg W σ μ1 H1 (fun μ H a b=>Rep X.K X.mg μ H a b) Q ((eT g tc mk mv w (ds.drop (i+1)) acc S).bind kD),fun H' w=>⟨n - 1,by omega,by omega,w⟩,fun x H' y=>?_⟩
      obtain ⟨sm,rx⟩:=rd.yields i _ μ H S x H' (List.getElem?_eq_getElem hi) sb rs y
      have sx:Step μ H μ H':=.of_sm sm
      have spx:=sp.trans (StP.of sx)
      obtain ⟨ks,us,g1,g2,g3⟩:=hpp
      refine xU ((rw1.stp sh).stp spx.toStp) (rs.sm sm) ⟨ks,us,sm _ _ g1,g2,RepAll.step sx _ _ g3⟩ (npm spx) rx o fun μ3 H3 S3 acc' s3 rs3 hp3 o3=>⟨μ3,S3,acc',spx.trans s3,rs3,hp3,o3⟩
    · have e:i=ds.length:=by omega
      subst e
      rw[List.drop_length] at o
      exact .inl ⟨rd.stops μ H sb,fin μ H S acc sp rs hpp o⟩
  | live l=>exact o1.elim
  | liveE l=>exact o1.elim
theorem vV {scope:Scope} {own:List (Str × Nat)} {ifs:List Expr} (hc:X.calm=true) (hN:X.N.Nodup) (hi:PI X tg iter (tI X W mi)) (ok:BlkOk X.N X.env.scope scope own)
    (hg:∀(s:Shared) (H:Hp) (C:Addr) (cl:List (Str × Addr)) (fp:List Addr),PG (X.blk s H scope (compEnvC scope cl C X.env) fp) tg (tGc (X.blk s H scope (compEnvC scope cl C X.env) fp) (own.map (·.2)) g))
    (ht:∀(s:Shared) (H:Hp) (C:Addr) (cl:List (Str × Addr)) (fp:List Addr),oW (X.blk s H scope (compEnvC scope cl C X.env) fp) ifs tc)
    (hk:∀(s:Shared) (H:Hp) (C:Addr) (cl:List (Str × Addr)) (fp:List Addr),PE (X.blk s H scope (compEnvC scope cl C X.env) fp) kx (tE (X.blk s H scope (compEnvC scope cl C X.env) fp) W0 mk))
    (he:∀(s:Shared) (H:Hp) (C:Addr) (cl:List (Str × Addr)) (fp:List Addr),PE (X.blk s H scope (compEnvC scope cl C X.env) fp) vx (tE (X.blk s H scope (compEnvC scope cl C X.env) fp) W0 mv)) (hs:∀x,foldedSetIterable iter X.env x=pure x:=by intro _; rfl) :
    PE X (.DictComp kx vx [⟨tg,iter,ifs,0⟩] scope pos) (tE X W (l5 mi g tc mk mv (own.map (·.2)))):=
  bt (pe_dc (g:=tGc X (own.map Prod.snd) g) (tt:=tT X W0 tc) (tk:=tE X W0 mk) (tv:=tE X W0 mv) hc hN hi ok hg ht hk he hs) fun σ H Q h=>dc_sem h
end
end DL
namespace DL
open PySem PySem.Spec PyProof.Rows L2
def l8 (C:Str):MS:=fun env S=>.exc ⟨C,[]⟩ env S
/-- an own exception class without fields -/
structure ExcF (K:PySem.W.Frag) (C:Addr):Prop where
  ex:PySem.W.excIn K C He.veBase "ValueError.__new__"=true
  kp:PySem.W.keepIn K (.ref C)=true
  s1:PySem.W.subIn K (.ref C) (.type "BaseException")=some true
  s2:PySem.W.typeIn K (.ref C)=some (.type "type")
section
variable {X:Cx} {W:WX} {pos:Pos}
theorem qA {x m:Str} {j:Nat} {p p2 p3:Pos} {C:Addr} (hc:X.calm=true) (tk:Takes X W) (F:ExcF X.K C) (gC:X.mg x=some (.ref C)) (hg:Gl X x) (hdb:(x == ("__debug__":Str))=false:=by decide) :
    PS X (.Raise (some (.Call (.Name x p) [.Constant (.str m) j p2] [] p3)) none pos) (tS X W (l8 x)):=
  fB (L2N.ps_raise hc tk (L2N.pmk_own PySem.F.excBase_ValueError F.ex gC F.kp (raises_own F.s1 F.s2) hg hdb)) fun D σ H ⟨env,S,μ,rl,o⟩=>
    o μ H σ (.ref C) none .refl rl.env rl.sto ⟨C,gC,rfl,.inl ⟨rfl,rfl⟩⟩
end
end DL
namespace DL
open PySem PySem.Spec PyProof.Rows L2 LamX
/-- what is told of an error,by its class and its fields -/
abbrev Hdr:=Str→List (Str × D)→Option D
/-- what the def makes of what the lambda does -/
def vW (hd:Hdr):Res D→Res D
  | .ok d S=>.ok d S
  | .exc e S=>match hd e.cls e.fs with
    | some d=>.ok d S
    | none=>.stuck
  | .stuck=>.stuck
def eKind (hd:Hdr) (m:ME):ME:=fun env S=>vW hd (m env S)
/-- an error's dict and its fields -/
def DdR (K:PySem.W.Frag) (mg:Str→Option Value) (μ:Mu) (H:Hp) (fs:List (Str × D)) (dd:Option Addr):Prop:=
  (fs=[]∧dd=none)∨fs≠[]∧∃d vs,dd=some d∧H d=some (.xd ((fs.map (·.1)).zip vs))∧RepAll K mg μ H (fs.map (·.2)) vs
/-- the dict is there where fields are -/
def DdK (fs:List (Str × D)) (dd:Option Addr):Prop:=(fs=[]∧dd=none)∨fs≠[]∧∃d,dd=some d
theorem DdR.k {K:PySem.W.Frag} {mg:Str→Option Value} {μ:Mu} {H:Hp} {fs:List (Str × D)} {dd:Option Addr} (h:DdR K mg μ H fs dd):DdK fs dd:=by
  rcases h with h|⟨h,d,_,e,_⟩
  · exact .inl h
  · exact .inr ⟨h,d,e⟩
theorem uR {K:PySem.W.Frag} {mg:Str→Option Value} {μ:Mu} {H H1:Hp} {S:Sto} (rs:RelS K mg μ H S) (e:ExtN H H1) (t:Tabs (tbs K) H1):Step μ H μ H1∧RelS K mg μ H1 S:=by
  have st:Step μ H μ H1:=⟨⟨⟨⟨[],by simp⟩,fun _ h=>.inl h,fun a o h _ nt=>e a o h nt⟩,fun a _ _ h=>e a _ h fun _ z=>nomatch z⟩,rfl,fun a u _ h nt=>e a u h nt⟩
  refine ⟨st,rs.len,rs.nd,rs.dis,fun a ha=>?_,fun l o el=>?_,t⟩
  · obtain ⟨u,h1,h2⟩:=rs.hid a ha
    exact ⟨u,e a u h1 h2.ntb,h2⟩
  · obtain ⟨a,h1,h2⟩:=rs.at_ l o el
    refine ⟨a,h1,h2.step st.toStp fun u hu=>e a u hu fun ps z=>?_⟩
    subst z
    exact h2.nt hu
end DL
namespace DL
open PySem PySem.Spec PyProof.Rows L2 LamX
/-- here lambdas may be made -/
structure LamHere (X:Cx) (p:Str × Option Str):Prop where
  tb:TabB X.base X.mg (He.cT X.K p).1 (He.cT X.K p).2
  code:X.env.code=.ref (He.cT X.K p).1
  mem:((He.cT X.K p).2,X.env.qual++"<lambda>")∈tbs X.K
  uniq:∀r∈tbs X.K,r.1=(He.cT X.K p).2→r.2=X.env.qual++"<lambda>"
theorem rg {X:Cx} {K:PySem.W.Frag} {p:Str × Option Str} {x qual:Str} {params:Arguments} {body:List Stmt} {scope:Scope} {fd:FuncData} (F:FunD K x qual params body scope [] [] (He.fAd K p) fd) (hK:X.K=K) (tb:TabB X.base X.mg (He.cT K p).1 (He.cT K p).2)
    (hc:X.env.code=fd.code) (hq:X.env.qual=qual++".<locals>.") {q:Str} (mem:((He.cT K p).2,q)∈tbs K) (uniq:∀r∈tbs K,r.1=(He.cT K p).2→r.2=q) (hqq:qual++".<locals>."++"<lambda>"=q:=by decide +kernel):LamHere X p:=by
  subst hK hqq
  obtain ⟨oc,od,dV,kV,doc,pm,an,cdv,ct,osl,rfl,lk,hcd,_⟩:=F.ex
  obtain ⟨c,rfl⟩:=He.codeIn_ref hcd
  have e:=He.codeOf_eq lk (c:=c) rfl
  refine ⟨tb,?_,by rw[hq]; exact mem,fun r hr h=>by rw[hq]; exact uniq r hr h⟩
  rw[hc]
  show Value.ref c=.ref (He.codeOf X.K p)
  rw[e]
end DL
namespace DL
open PySem PySem.Spec PyProof.Rows L2 LamX
theorem ru1 {k:Nat} {A:Around} (r:Room k A):A.units+1<cLine:=by have:=r.un; omega
theorem cM {k:Nat} {A:Around} (r:Room k A):A.units+64<cLine:=by have:=r.un; omega
theorem cN {k:Nat} {A:Around} (r:Room k A):A.units+65<cLine:=by have:=r.un; omega
/-- a def,whatever its record -/
def FnE (P:Program) (w:World) (K:PySem.W.Frag) (mg:Str→Option Value) (base:Heap) (k:Nat) (f:Addr) (ps:List Str) (m:MF):Prop:=∃fd,FnM P w K mg base k f fd ps m
theorem ak {P:Program} {w:World} {K:PySem.W.Frag} {mg:Str→Option Value} {base:Heap} {x qual:Str} {st:Stmt} {f:Addr} {fd:FuncData} {N ps:List Str} {k n:Nat} {m:MS} (F:FunD K x qual (defArgs st) (defBody st) (defScope st) [] [] f fd) (S:FnScope N ps (defScope st)) (hn:N.length - ps.length=n)
    (hb:∀(kV doc pm:Value) (an:Option Addr) (cdv ct:Value) (us:List Value),us.length=ps.length→bindArgs (PySem.W.fnOf x qual (defArgs st) (defBody st) (defScope st) .none kV doc pm an cdv ct) ⟨us,[]⟩=pure (ps.zip us))
    (hbody:∀(cdv:Value) (A:Around) (outer:List Env) (s:Shared) (H:Hp) (E:XK),fd.code=cdv→PassesOwn (model P w) (cxOf (L2N.CX P w) P w K mg base N qual (defScope st) f cdv A outer s H E).A (cxOf (L2N.CX P w) P w K mg base N qual (defScope st) f cdv A outer s H E).env (cxOf (L2N.CX P w) P w K mg base N qual (defScope st) f cdv A outer s H E).xe→
      Room k (cxOf (L2N.CX P w) P w K mg base N qual (defScope st) f cdv A outer s H E).A→∀W,Takes (cxOf (L2N.CX P w) P w K mg base N qual (defScope st) f cdv A outer s H E) W→PSs (cxOf (L2N.CX P w) P w K mg base N qual (defScope st) f cdv A outer s H E) (defBody st) (tS (cxOf (L2N.CX P w) P w K mg base N qual (defScope st) f cdv A outer s H E) W m)):FnM P w K mg base (k+1) f fd ps (ay n m):=by
  have b:Binds K fd ps []:=F.bindsN hb
  obtain ⟨oc,od,dV,kV,doc,pm,an,cdv,ct,osl,rfl,lk,hcd,_⟩:=F.ex
  refine ⟨fn_of lk hcd S (fun vs H Q E h=>xN h) (fun A outer s H vs Q E hr h=>?_),F.kp,b⟩
  refine ⟨_,hbody cdv A outer s H E rfl (passes_of rfl) hr (fun cls d _ H=>E cls d H) (takes_of rfl rfl rfl rfl),?_⟩
  obtain ⟨ds,So,μ,rs,ra,o⟩:=h
  unfold chk at o
  split at o
  · rename_i hl
    have e0:n=N.length - ds.length:=by rw[hl]; exact hn.symm
    refine ⟨ds.map some++List.replicate n none,So,μ,⟨by rw[e0]; exact rZ ra,rs⟩,?_⟩
    unfold ay at o
    cases hm:m (ds.map some++List.replicate n none) So with
    | next e S1=>rw[hm] at o; exact fun μ' H' σ' st re rs'=>o μ' H' .non st rs' lc
    | ret d S1=>rw[hm] at o; exact fun μ' H' v st rs' r=>o μ' H' v st rs' r
    | exc e v S1=>rw[hm] at o; exact fun μ' H' σ' c d st re rs' r=>o μ' H' c d st rs' r
    | brk e S1=>rw[hm] at o; exact o.elim
    | cont e S1=>rw[hm] at o; exact o.elim
    | stuck=>rw[hm] at o; exact o
  · exact o.elim
section
variable {X:Cx} {W:WX} {k:Nat} {f C:Addr} {ps:List Str} {m mi:MF} {x nm cn:Str} {p pos apos:Pos} {e o:Expr} {es:List Expr} {r:MA} {ma mv:ME}
theorem bW {i:Int} (hm:∃t,X.mg x=some (.int i t)) (hg:Gl X x:=by rfl) (hd:(x == ("__debug__":Str))=false:=by decide):PE X (.Name x pos) (tE X W (eC (.int i))):=hm.elim fun _ h=>xJ hg h hd
theorem xV {i:Str} (hm:∃t,X.mg x=some (.str i t)) (hg:Gl X x:=by rfl) (hd:(x == ("__debug__":Str))=false:=by decide):PE X (.Name x pos) (tE X W (eC (.str i))):=hm.elim fun _ h=>xK hg h hd
theorem aN (F:FnE X.prog X.w X.K X.mg X.base k f ps m) (hr:Room k X.A) (hm:X.mg x=some (.ref f)) (tk:Takes X W) (ha:PA X (e::es) (tAs X W r)) (hg:Gl X x:=by rfl) (hdb:(x == ("__debug__":Str))=false:=by decide)
    (he:starEach (e::es) X.env=(false,eval e X.env)::starEach es X.env:=by rfl) (hpl:(backTo pos (starEach es X.env)).any (·.1)=false:=by rfl) :
    PE X (.Call (.Name x p) (e::es) [] pos) (tE X W (aR ps.length m r)):=F.elim fun _ F=>xO F hr hg hm tk ha hdb he hpl
theorem ck {pl:Sem Bool} (he:PE X o (tE X W ma)) (hC:X.mg cn=some (.ref C)) (c:Cls X.K C) (hm:Meth X.K C nm f) (F:FnE X.prog X.w X.K X.mg X.base k f ps m) (hr:Room k X.A) (tk:Takes X W) (ha:PA X (e::es) (tAs X W r))
    (hst:starEach (e::es) X.env=(false,eval e X.env)::starEach es X.env:=by rfl) (hpl:(backTo pos (starEach es X.env)).any (·.1)=false:=by rfl)
    (ht:eval (.Call (.Attribute o nm apos) (e::es) [] pos) X.env=(do
      let ov ←eval o X.env
      standAt apos.atName
      let (f,first) ←holding [ov] (getMethod ov nm pl)
      callWith pos f first (backTo pos (starEach (e::es) X.env)) (backToKw pos (keywordEach [] X.env))):=by rfl) :
    PE X (.Call (.Attribute o nm apos) (e::es) [] pos) (tE X W (cu cn nm ps.length m ma r)):=F.elim fun _ F=>xP he hC c hm F hr tk ha hst hpl ht
theorem qB {pl:Sem Bool} (he:PE X o (tE X W ma)) (hC:X.mg cn=some (.ref C)) (c:Cls X.K C) (hm:Meth X.K C nm f) (F:FnE X.prog X.w X.K X.mg X.base k f ps m) (hr:Room k X.A) (tk:Takes X W)
    (ht:eval (.Call (.Attribute o nm apos) [] [] pos) X.env=(do
      let ov ←eval o X.env
      standAt apos.atName
      let (f,first) ←holding [ov] (getMethod ov nm pl)
      callWith pos f first (backTo pos (starEach [] X.env)) (backToKw pos (keywordEach [] X.env))):=by rfl) :
    PE X (.Call (.Attribute o nm apos) [] [] pos) (tE X W (cu cn nm ps.length m ma aJ)):=F.elim fun _ F=>vP he hC c hm F hr tk ht
theorem lO (hC:X.mg cn=some (.ref C)) (M:Mk X.K C f) (F:FnE X.prog X.w X.K X.mg X.base k f ps mi) (hr:Room (k+1) X.A) (tk:Takes X W) (ha:PA X (e::es) (tAs X W r)) (hg:Gl X cn:=by rfl) (hdb:(cn == ("__debug__":Str))=false:=by decide)
    (he:starEach (e::es) X.env=(false,eval e X.env)::starEach es X.env:=by rfl) (hpl:(backTo pos (starEach es X.env)).any (·.1)=false:=by rfl) :
    PE X (.Call (.Name cn p) (e::es) [] pos) (tE X W (ke cn ps.length mi r)):=F.elim fun _ F=>xR hC M F hr hg tk ha hdb he hpl
end
end DL
namespace DL
open PySem PySem.Spec PyProof.Rows L2 LamX
theorem cG:bootBuiltins "len"=some (.builtin "len"):=by decide +kernel
theorem aj:bootBuiltins "isinstance"=some (.builtin "isinstance"):=by decide +kernel
theorem vX:bootBuiltins "min"=some (.builtin "min"):=by decide +kernel
theorem l9:bootBuiltins "all"=some (.builtin "all"):=by decide +kernel
theorem e8:bootBuiltins "sorted"=some (.builtin "sorted"):=by decide +kernel
theorem fF:bootBuiltins "int"=some (.type "int"):=by decide +kernel
theorem xW:bootBuiltins "bool"=some (.type "bool"):=by decide +kernel
theorem rh:bootBuiltins "str"=some (.type "str"):=by decide +kernel
theorem bN:bootBuiltins "tuple"=some (.type "tuple"):=by decide +kernel
theorem xX:bootBuiltins "list"=some (.type "list"):=by decide +kernel
theorem xY:bootBuiltins "dict"=some (.type "dict"):=by decide +kernel
theorem nU {X:Cx} {W:WX} {ss:List Stmt}:PSs X ss (tS X W iq):=⟨fun _ _ _ _ _ _ ⟨_,_,_,_,o⟩=>o.elim⟩
theorem tY {K:PySem.W.Frag} {x:Str} (h:(He.Fa.exc x).ok K=true):ExcF K (He.ga K x):=let ⟨a,b,c,d⟩:=He.exc_ok h; ⟨a,b,c,d⟩
theorem vY {P:Program} {w:World} {H:Hp} {s:Shared} {e:Value} {s':Shared} (h:L2N.CX P w [] H s (fun _ _ _=>False) e s'):False:=by
  obtain ⟨_,_,_,_,_,_,_,_,_,_,_,_,z⟩:=h
  exact z.elim
theorem kh {K:PySem.W.Frag} {mg:Str→Option Value} {μ:Mu} {H:Hp}:∀ns:List Int,RepAll K mg μ H (ns.map .int) (ns.map V.int)
  | []=>.nil
  | n::ns=>.cons (bB n) (kh ns)
/-- where the law begins -/
theorem vZ {K:PySem.W.Frag} {mg:Str→Option Value} {H:Hp} {a:Addr} {ns:List Int} {m:MF} (hS:SqL K H a (ns.map V.int)) (hT:∀p∈tbs K,H p.1=some (.tbl #[])) (hL:∃S,m [.ro (ns.map .int)] []=.ok (.bool true) S):spD K mg 1 m [.ref a] H (fun v _=>v=.bl true) fun _ _ _=>False:=by
  obtain ⟨S,hL⟩:=hL
  have nm:∀b:Addr,b∉(⟨[],[]⟩:Mu):=fun b z=>z.elim (fun z=>nomatch z) fun z=>nomatch z
  refine ⟨[.ro (ns.map .int)],[],⟨[],[]⟩,⟨rfl,List.nodup_nil,(fun _ h=>by cases h),(fun _ h=>by cases h),(fun l o e=>by simp at e),fun p hp=>TabS.nil (hT p hp)⟩,.cons ?_ .nil,?_⟩
  · unfold Rep
    refine ⟨a,ns.map V.int,rfl,?_,kh ns⟩
    rcases hS with h|h
    · exact .inl ⟨h,nm a⟩
    · exact .inr (.inr h)
  · have e:chk 1 m [.ro (ns.map .int)] []=.ok (.bool true) S:=by
      unfold chk
      exact hL
    rw[e]
    intro μ' H' v st rs r
    have r:Rep K mg μ' H' (.bool true) v:=r
    unfold Rep at r
    exact r
theorem nV {K:PySem.W.Frag} (h:rK K=true):(∀p∈lamDefs,((He.cT K p.1).2,p.2)∈tbs K)∧∀p∈lamDefs,∀r∈tbs K,r.1=(He.cT K p.1).2→r.2=p.2:=by
  refine ⟨fun p hp=>List.mem_map.mpr ⟨p,hp,rfl⟩,fun p hp r hr e=>?_⟩
  unfold rK at h
  simp only[List.all_eq_true,Bool.or_eq_true,Bool.not_eq_true',decide_eq_false_iff_not,decide_eq_true_eq] at h
  rcases h p hp r hr with z|z
  · exact absurd e z
  · exact z
end DL
namespace DL
open PySem PySem.Spec PyProof.Rows L2 LamX
@[simp] theorem bind_ok {α β:Type} (a:α) (S:Sto) (f:α→Sto→Res β):Res.bind (.ok a S) f=f a S:=rfl
@[simp] theorem bind_exc {α β:Type} (e:XV) (S:Sto) (f:α→Sto→Res β):Res.bind (.exc e S) f=.exc e S:=rfl
@[simp] theorem bind_stuck {α β:Type} (f:α→Sto→Res β):Res.bind (.stuck:Res α) f=.stuck:=rfl
@[simp] theorem bO {α β:Type} (a:α) (S:Sto) (f:α→Sto→Res β):Res.bindS (.ok a S) f=f a S:=rfl
@[simp] theorem bindS_exc {α β:Type} (e:XV) (S:Sto) (f:α→Sto→Res β):Res.bindS (.exc e S) f=.stuck:=rfl
@[simp] theorem yX {α β:Type} (f:α→Sto→Res β):Res.bindS (.stuck:Res α) f=.stuck:=rfl
@[simp] theorem rs_ok {α:Type} (env:En) (a:α) (S:Sto) (k:α→Sto→RS):Res.rs env (.ok a S) k=k a S:=rfl
@[simp] theorem rs_exc {α:Type} (env:En) (e:XV) (S:Sto) (k:α→Sto→RS):Res.rs env (.exc e S) k=.exc e env S:=rfl
@[simp] theorem rs_stuck {α:Type} (env:En) (k:α→Sto→RS):Res.rs env (.stuck:Res α) k=.stuck:=rfl
@[simp] theorem then_next (e:En) (S:Sto) (k:MS):RS.andThen (.next e S) k=k e S:=rfl
@[simp] theorem then_brk (e:En) (S:Sto) (k:MS):RS.andThen (.brk e S) k=.brk e S:=rfl
@[simp] theorem then_cont (e:En) (S:Sto) (k:MS):RS.andThen (.cont e S) k=.cont e S:=rfl
@[simp] theorem then_ret (d:D) (S:Sto) (k:MS):RS.andThen (.ret d S) k=.ret d S:=rfl
@[simp] theorem then_exc (x:XV) (e:En) (S:Sto) (k:MS):RS.andThen (.exc x e S) k=.exc x e S:=rfl
@[simp] theorem then_stuck (k:MS):RS.andThen .stuck k=.stuck:=rfl
@[simp] theorem ofO_some {α:Type} (S:Sto) (a:α):ofO S (some a)=.ok a S:=rfl
@[simp] theorem ofO_none {α:Type} (S:Sto):ofO S (none:Option α)=.stuck:=rfl
@[simp] theorem ofG_some (p:En × Sto):ofG (some p)=.next p.1 p.2:=rfl
@[simp] theorem ofG_none:ofG none=.stuck:=rfl
@[simp] theorem vt_none  : vt (.none)=.none:=rfl
@[simp] theorem view0_none (S:Sto)  : view0 S (.none)=.none:=rfl
@[simp] theorem view_none (S:Sto)  : view S (.none)=.none:=rfl
@[simp] theorem vt_bool (b:Bool):vt (.bool b)=.bool b:=rfl
@[simp] theorem view0_bool (S:Sto) (b:Bool):view0 S (.bool b)=.bool b:=rfl
@[simp] theorem view_bool (S:Sto) (b:Bool):view S (.bool b)=.bool b:=rfl
@[simp] theorem vt_int (b:Int):vt (.int b)=.int b:=rfl
@[simp] theorem view0_int (S:Sto) (b:Int):view0 S (.int b)=.int b:=rfl
@[simp] theorem view_int (S:Sto) (b:Int):view S (.int b)=.int b:=rfl
@[simp] theorem vt_str (b:Str):vt (.str b)=.str b:=rfl
@[simp] theorem view0_str (S:Sto) (b:Str):view0 S (.str b)=.str b:=rfl
@[simp] theorem view_str (S:Sto) (b:Str):view S (.str b)=.str b:=rfl
@[simp] theorem vt_ty (b:String):vt (.ty b)=.ty b:=rfl
@[simp] theorem view0_ty (S:Sto) (b:String):view0 S (.ty b)=.ty b:=rfl
@[simp] theorem view_ty (S:Sto) (b:String):view S (.ty b)=.ty b:=rfl
@[simp] theorem vt_tup (b:List D):vt (.tup b)=.tup b:=rfl
@[simp] theorem view0_tup (S:Sto) (b:List D):view0 S (.tup b)=.tup b:=rfl
@[simp] theorem view_tup (S:Sto) (b:List D):view S (.tup b)=.tup b:=rfl
@[simp] theorem vt_lst (b:List D):vt (.lst b)=.lst b:=rfl
@[simp] theorem view0_lst (S:Sto) (b:List D):view0 S (.lst b)=.lst b:=rfl
@[simp] theorem qC (S:Sto) (b:List D):view S (.lst b)=.lst b:=rfl
@[simp] theorem vt_ro (b:List D):vt (.ro b)=.ro b:=rfl
@[simp] theorem view0_ro (S:Sto) (b:List D):view0 S (.ro b)=.ro b:=rfl
@[simp] theorem view_ro (S:Sto) (b:List D):view S (.ro b)=.ro b:=rfl
@[simp] theorem vt_glo (b:Str):vt (.glo b)=.glo b:=rfl
@[simp] theorem view0_glo (S:Sto) (b:Str):view0 S (.glo b)=.glo b:=rfl
@[simp] theorem view_glo (S:Sto) (b:Str):view S (.glo b)=.glo b:=rfl
@[simp] theorem vt_adr (b:Addr):vt (.adr b)=.adr b:=rfl
@[simp] theorem view0_adr (S:Sto) (b:Addr):view0 S (.adr b)=.adr b:=rfl
@[simp] theorem view_adr (S:Sto) (b:Addr):view S (.adr b)=.adr b:=rfl
@[simp] theorem vt_exn (a b:Addr) (ns:List Str) (xs:List D):vt (.exn a b ns xs)=.exn a b ns xs:=rfl
@[simp] theorem view0_exn (S:Sto) (a b:Addr) (ns:List Str) (xs:List D):view0 S (.exn a b ns xs)=.exn a b ns xs:=rfl
@[simp] theorem view_exn (S:Sto) (a b:Addr) (ns:List Str) (xs:List D):view S (.exn a b ns xs)=.exn a b ns xs:=rfl
@[simp] theorem vt_tpn (b:List D):vt (.tpn b)=.tup b:=rfl
@[simp] theorem vt_loc (l:Nat):vt (.loc l)=.loc l:=rfl
@[simp] theorem view0_tpn (S:Sto) (b:List D):view0 S (.tpn b)=.tpn b:=rfl
@[simp] theorem view_tpn (S:Sto) (b:List D):view S (.tpn b)=.tup b:=rfl
@[simp] theorem view0_loc (S:Sto) (l:Nat):view0 S (.loc l)=match S[l]? with
  | some (.lst xs)=>.lst xs
  | _=>.loc l:=rfl
@[simp] theorem view_loc (S:Sto) (l:Nat):view S (.loc l)=vt (match S[l]? with
  | some (.lst xs)=>.lst xs
  | _=>.loc l):=rfl
@[simp] theorem eBin_at (f:Sto→D→D→Option D) (ma mb:ME) (env:En) (S:Sto):aK f ma mb env S=(ma env S).bind fun a S=>(mb env S).bind fun b S=>ofO S (f S a b):=rfl
@[simp] theorem tOf_at (m:ME) (env:En) (S:Sto):tOf m env S=(m env S).bind fun d S=>match d with
  | .bool b=>.ok b S
  | _=>.stuck:=rfl
@[simp] theorem pNo_at (x0:En) (S:Sto):pNo  x0 S=.ok none S:=rfl
@[simp] theorem pSome_at (m:ME) (env:En) (S:Sto):jJ m env S=(m env S).bind fun d S=>match d with
  | .int i=>.ok (some i) S
  | _=>.stuck:=rfl
@[simp] theorem eCut_at (m:ME) (ml mh:MP) (env:En) (S:Sto):oO m ml mh env S=(m env S).bind fun d S=>(ml env S).bind fun lo S=>(mh env S).bind fun hi S=>ofO S (mr (view0 S d) lo hi):=rfl
@[simp] theorem eC_at (d:D) (x0:En) (S:Sto):eC d x0 S=.ok d S:=rfl
@[simp] theorem eV_at (i:Nat) (env:En) (S:Sto):eV i env S=match env[i]? with
  | some (some d)=>.ok d S
  | _=>.stuck:=rfl
@[simp] theorem tTru_at (m:ME) (env:En) (S:Sto):cQ m env S=(m env S).bind fun d S=>ofO S (fc S d):=rfl
@[simp] theorem tAndM_at (ma mb:MT) (env:En) (S:Sto):nH ma mb env S=(ma env S).bind fun c S=>if c=true then mb env S else .ok false S:=rfl
@[simp] theorem tOrM_at (ma mb:MT) (env:En) (S:Sto):dJ ma mb env S=(ma env S).bind fun c S=>if c=true then .ok true S else mb env S:=rfl
@[simp] theorem tNotM_at (ma:MT) (env:En) (S:Sto):bu ma env S=(ma env S).bind fun c S=>.ok (!c) S:=rfl
@[simp] theorem eAnd_at (ma mb:ME) (env:En) (S:Sto):jx ma mb env S=(ma env S).bind fun d S=>(ofO S (fc S d)).bind fun c S=>if c=true then mb env S else .ok d S:=rfl
@[simp] theorem eOr_at (ma mb:ME) (env:En) (S:Sto):eOr ma mb env S=(ma env S).bind fun d S=>(ofO S (fc S d)).bind fun c S=>if c=true then .ok d S else mb env S:=rfl
@[simp] theorem eNot_at (ma:ME) (env:En) (S:Sto):eNot ma env S=(ma env S).bind fun d S=>(ofO S (fc S d)).bind fun c S=>.ok (.bool (!c)) S:=rfl
@[simp] theorem eIf_at (tc:MT) (ma mb:ME) (env:En) (S:Sto):eIf tc ma mb env S=(tc env S).bind fun c S=>if c=true then ma env S else mb env S:=rfl
@[simp] theorem eNeg_at (ma:ME) (env:En) (S:Sto):eNeg ma env S=(ma env S).bind fun d S=>match d with
  | .int i=>.ok (.int (-i)) S
  | _=>.stuck:=rfl
@[simp] theorem eChain_at (f g:Sto→D→D→Option D) (ma mb mc:ME) (env:En) (S:Sto):ip f g ma mb mc env S=(ma env S).bind fun a S=>(mb env S).bind fun b S=>match f S a b with
  | some (.bool true)=>(mc env S).bind fun c S=>ofO S (g S b c)
  | some (.bool false)=>.ok (.bool false) S
  | _=>.stuck:=rfl
@[simp] theorem aNil_at (x0:En) (S:Sto):aJ  x0 S=.ok [] S:=rfl
@[simp] theorem aCons_at (m:ME) (r:MA) (env:En) (S:Sto):aC m r env S=(m env S).bind fun d S=>(r env S).bind fun ds S=>.ok (d::ds) S:=rfl
@[simp] theorem eTup_at (r:MA) (env:En) (S:Sto):cx r env S=(r env S).bind fun ds S=>if ds.length≤1000000 then .ok (.tup ds) S else .stuck:=rfl
@[simp] theorem eLst_at (r:MA) (env:En) (S:Sto):jK r env S=(r env S).bind fun ds S=>if ds.length≤1000000 then .ok (.lst ds) S else .stuck:=rfl
@[simp] theorem eLstM_at (r:MA) (env:En) (S:Sto):iU r env S=(r env S).bind fun ds S=>if ds.length≤1000000 then .ok (.loc S.length) (S++[.lst ds]) else .stuck:=rfl
@[simp] theorem eDct_at (t:Bool) (x0:En) (S:Sto):oQ t x0 S=.ok (.loc S.length) (S++[.dct t []]):=rfl
@[simp] theorem sNil_at (env:En) (S:Sto):b4  env S=.next env S:=rfl
@[simp] theorem sSeq_at (a b:MS) (env:En) (S:Sto):aV a b env S=(a env S).andThen b:=rfl
@[simp] theorem sExpr_at (m:ME) (env:En) (S:Sto):dL m env S=(m env S).rs env fun _ S=>.next env S:=rfl
@[simp] theorem sRet_at (m:ME) (env:En) (S:Sto):bF m env S=(m env S).rs env fun d S=>.ret d S:=rfl
@[simp] theorem sRetN_at (x0:En) (S:Sto):sRetN  x0 S=.ret .none S:=rfl
@[simp] theorem sBreak_at (env:En) (S:Sto):vG  env S=.brk env S:=rfl
@[simp] theorem sCont_at (env:En) (S:Sto):sCont  env S=.cont env S:=rfl
@[simp] theorem sStuck_at (x0:En) (x1:Sto):iq  x0 x1=.stuck:=rfl
@[simp] theorem eStuck_at (x0:En) (x1:Sto):vH  x0 x1=.stuck:=rfl
@[simp] theorem sIf_at (tc:MT) (a b:MS) (env:En) (S:Sto):sIf tc a b env S=(tc env S).rs env fun c S=>if c=true then a env S else b env S:=rfl
@[simp] theorem gV_at (i:Nat) (d:D) (env:En) (S:Sto):gV i d env S=some (env.set i (some d),S):=rfl
@[simp] theorem gsNil_at (ds:List D) (env:En) (S:Sto):eW  ds env S=match ds with
  | []=>some (env,S)
  | _=>none:=rfl
@[simp] theorem gsCons_at (g:MG) (gs:MGs) (ds:List D) (env:En) (S:Sto):au g gs ds env S=match ds with
  | d::ds=>(g d env S).bind fun p=>gs ds p.1 p.2
  | []=>none:=rfl
@[simp] theorem gTupD_at (n:Nat) (gs:MGs) (d:D) (env:En) (S:Sto):dg n gs d env S=match vt d with
  | .tup ds=>if ds.length=n then gs ds env S else none
  | _=>none:=rfl
@[simp] theorem sAsg_at (m:ME) (g:MG) (env:En) (S:Sto):fg m g env S=(m env S).rs env fun d S=>ofG (g d env S):=rfl
@[simp] theorem sPar_at (i j:Nat) (r:MA) (env:En) (S:Sto):rU i j r env S=(r env S).rs env fun ds S=>match ds with
  | [a,b]=>.next ((env.set i (some a)).set j (some b)) S
  | _=>.stuck:=rfl
@[simp] theorem sSet_at (i:Nat) (m:ME) (env:En) (S:Sto):bw i m env S=(m env S).rs env fun d S=>.next (env.set i (some d)) S:=rfl
@[simp] theorem sAug_at (i:Nat) (f:Sto→D→D→Option D) (m:ME) (env:En) (S:Sto):sAug i f m env S=match env[i]? with
  | some (some a)=>(m env S).rs env fun b S=>match f S a b with
    | some d=>.next (env.set i (some d)) S
    | none=>.stuck
  | _=>.stuck:=rfl
@[simp] theorem iAny_at (m:ME) (env:En) (S:Sto):cF m env S=(m env S).bind fun d S=>ofO S (bI S d):=rfl
@[simp] theorem iRng1D_at (r:MA) (env:En) (S:Sto):g5 r env S=(r env S).bind fun ds S=>match ds with
  | [.int j]=>if bK j then .ok (.items (jy 0 j.toNat)) S else .stuck
  | _=>.stuck:=rfl
@[simp] theorem iRng2D_at (r:MA) (env:En) (S:Sto):ll r env S=(r env S).bind fun ds S=>match ds with
  | [.int i,.int j]=>if bK i&&bK j then .ok (.items (jy i (j - i).toNat)) S else .stuck
  | _=>.stuck:=rfl
@[simp] theorem iEnumD_at (r:MA) (env:En) (S:Sto):lm r env S=(r env S).bind fun ds S=>match ds.map vt with
  | [.tup xs]=>.ok (.items (di 0 xs)) S
  | [.lst xs]=>.ok (.items (di 0 xs)) S
  | [.loc l]=>match S[l]? with
    | some (.lst _)=>.ok (.liveE l) S
    | _=>.stuck
  | _=>.stuck:=rfl
@[simp] theorem iZipD_at (r:MA) (env:En) (S:Sto):tQ r env S=(r env S).bind fun ds S=>match ds.map vt with
  | [.tup xs,.tup ys]=>.ok (.items (eQ xs ys)) S
  | [.lst xs,.lst ys]=>.ok (.items (eQ xs ys)) S
  | _=>.stuck:=rfl
@[simp] theorem sFor_at (mi:MI) (g:MG) (b:MS) (env:En) (S:Sto):fv mi g b env S=(mi env S).rs env fun it S=>match it with
  | .items ds=>g6 g b ds env S
  | .live l=>gi g b l (cy S l+1) 0 env S
  | .liveE l=>kc g b l (cy S l+1) 0 env S:=rfl
@[simp] theorem compR_at (mi:MI) (g:MG) (tc:MT) (m:ME) (vs:List Nat) (env:En) (S:Sto):fy mi g tc m vs env S=(mi env S).bind fun it S=>match it with
  | .items ds=>dE g tc m (ao env vs) ds [] S
  | .live l=>eX g tc m (ao env vs) l (cy S l+1) 0 [] S
  | .liveE l=>g7 g tc m (ao env vs) l (cy S l+1) 0 [] S:=rfl
@[simp] theorem eComp_at (mi:MI) (g:MG) (tc:MT) (m:ME) (vs:List Nat) (env:En) (S:Sto):bv mi g tc m vs env S=(fy mi g tc m vs env S).bind fun ds S=>.ok (.lst ds) S:=rfl
@[simp] theorem eCompM_at (mi:MI) (g:MG) (tc:MT) (m:ME) (vs:List Nat) (env:En) (S:Sto):lw mi g tc m vs env S=(fy mi g tc m vs env S).bind fun ds S=>.ok (.loc S.length) (S++[.lst ds]):=rfl
@[simp] theorem tYesM_at (x0:En) (S:Sto):c5  x0 S=.ok true S:=rfl
@[simp] theorem chk_at (n:Nat) (m:MF) (ds:List D) (S:Sto):chk n m ds S=if ds.length=n then m ds S else .stuck:=rfl
@[simp] theorem vc (n:Nat) (m:MS) (ds:List D) (S:Sto):ay n m ds S=match m (ds.map some++List.replicate n none) S with
  | .next _ S=>.ok .none S
  | .ret d S=>.ok d S
  | .exc e _ S=>.exc e S
  | _=>.stuck:=rfl
@[simp] theorem eCall_at (n:Nat) (m:MF) (r:MA) (env:En) (S:Sto):aR n m r env S=(r env S).bind fun ds S=>chk n m ds S:=rfl
@[simp] theorem eMeth_at (cn nm:Str) (n:Nat) (m:MF) (ma:ME) (r:MA) (env:En) (S:Sto):cu cn nm n m ma r env S=(ma env S).bind fun d S=>match d with
  | .loc l=>match S[l]? with
    | some (.ins C fs)=>if C=cn∧(fs.map (·.1)).contains nm=false then (r env S).bind fun ds S=>chk n m (.loc l::ds) S else .stuck
    | _=>.stuck
  | _=>.stuck:=rfl
@[simp] theorem eMake_at (cn:Str) (n:Nat) (mi:MF) (r:MA) (env:En) (S:Sto):ke cn n mi r env S=(r env S).bind fun ds S=>(chk n mi (.loc S.length::ds) (S++[.ins cn []])).bind fun d S'=>match d with
  | .none=>.ok (.loc S.length) S'
  | _=>.stuck:=rfl
@[simp] theorem eFld_at (cn f:Str) (ma:ME) (env:En) (S:Sto):df cn f ma env S=(ma env S).bind fun d S=>match d with
  | .loc l=>match S[l]? with
    | some (.ins C fs)=>if C=cn then ofO S (fs.lookup f) else .stuck
    | _=>.stuck
  | _=>.stuck:=rfl
@[simp] theorem sFldM_at (cn f:Str) (ma mv:ME) (env:En) (S:Sto):jP cn f ma mv env S=(mv env S).rs env fun d S=>(ma env S).rs env fun o S=>match o with
  | .loc l=>match S[l]? with
    | some (.ins C fs)=>if C=cn∧fs.length<1000 then .next env (S.set l (.ins C (gt f d fs))) else .stuck
    | _=>.stuck
  | _=>.stuck:=rfl
@[simp] theorem eB_at (f:BF) (r:MA) (env:En) (S:Sto):eB f r env S=(r env S).bind fun ds S=>ofO S (f S ds):=rfl
@[simp] theorem eM_at (ok:Sto→D→Bool) (f:BM) (ma:ME) (r:MA) (env:En) (S:Sto):eM ok f ma r env S=(ma env S).bind fun d S=>if ok S d then (r env S).bind fun ds S=>match f S d ds with
  | some p=>.ok p.1 p.2
  | none=>.stuck else .stuck:=rfl
@[simp] theorem gSubM_at (mo mi:ME) (v:D) (env:En) (S:Sto):fY mo mi v env S=match mo env S with
  | .ok o S=>match mi env S with
    | .ok i S=>(bM S o i v).map fun S=>(env,S)
    | _=>none
  | _=>none:=rfl
@[simp] theorem eRev_at (m:ME) (env:En) (S:Sto):eRev m env S=(m env S).bind fun d S=>match view S d with
  | .lst xs=>.ok (.lst xs.reverse) S
  | _=>.stuck:=rfl
@[simp] theorem eDictP_at (r:MA) (env:En) (S:Sto):oZ r env S=(r env S).bind fun ds S=>match ds with
  | [.tpn xs]=>match eD xs with
    | some ps=>if xs.length≤1000000 then .ok (.loc S.length) (S++[.dct false (dj [] ps)]) else .stuck
    | none=>.stuck
  | _=>.stuck:=rfl
@[simp] theorem eDComp_at (mi:MI) (g:MG) (tc:MT) (mk mv:ME) (vs:List Nat) (env:En) (S:Sto):l5 mi g tc mk mv vs env S=(mi env S).bind fun it S=>match it with
  | .items ds=>(eT g tc mk mv (ao env vs) ds [] S).bind kD
  | .live _=>.stuck
  | .liveE _=>.stuck:=rfl
@[simp] theorem sRaise_at (C:Str) (env:En) (S:Sto):l8 C env S=.exc ⟨C,[]⟩ env S:=rfl
@[simp] theorem eKind_at (hd:Hdr) (m:ME) (env:En) (S:Sto):eKind hd m env S=vW hd (m env S):=rfl
@[simp] theorem kD_at (kvs:List (D × D)) (S:Sto):kD kvs S=.ok (.loc S.length) (S++[.dct false kvs]):=rfl
@[simp] theorem lv_at (f:D→D→Option D) (S:Sto) (a b:D):lv f S a b=f (view S a) (view S b):=rfl
@[simp] theorem lv0_at (f:D→D→Option D) (S:Sto) (a b:D):lv0 f S a b=f (view0 S a) (view0 S b):=rfl
@[simp] theorem oI_at (g:Int→Int→Int) (i j:Int):oI g (.int i) (.int j)=some (.int (g i j)):=rfl
@[simp] theorem oIC_at (C:Int→Int→Bool) (g:Int→Int→Int) (i j:Int):oIC C g (.int i) (.int j)=if C i j then some (.int (g i j)) else none:=rfl
@[simp] theorem oIB_at (g:Int→Int→Bool) (i j:Int):oIB g (.int i) (.int j)=some (.bool (g i j)):=rfl
@[simp] theorem dAdd_int (i j:Int):bS (.int i) (.int j)=some (.int (i+j)):=rfl
@[simp] theorem dAdd_str (x y:Str):bS (.str x) (.str y)=if x.length+y.length≤1000000 then some (.str (x++y)) else none:=rfl
@[simp] theorem dAdd_tup (xs ys:List D):bS (.tup xs) (.tup ys)=if xs.length+ys.length≤1000000 then some (.tup (xs++ys)) else none:=rfl
@[simp] theorem dAdd_lst (xs ys:List D):bS (.lst xs) (.lst ys)=if xs.length+ys.length≤1000000 then some (.lst (xs++ys)) else none:=rfl
@[simp] theorem dEq_at (a b:D):dEq a b=if dok 60 a&&dok 60 b then some (.bool (peq a b)) else none:=rfl
@[simp] theorem dNe_at (a b:D):dNe a b=if dok 60 a&&dok 60 b then some (.bool (!peq a b)) else none:=rfl
@[simp] theorem fIn_at (S:Sto) (a b:D):fIn S a b=(dIn S a b).map .bool:=rfl
@[simp] theorem fNotIn_at (S:Sto) (a b:D):cZ S a b=(dIn S a b).map fun c=>.bool (!c):=rfl
@[simp] theorem dIsN_at (a:D):dIsN a .none=some (.bool (isN a)):=rfl
@[simp] theorem dIsntN_at (a:D):oN a .none=some (.bool (!isN a)):=rfl
end DL
namespace DL
open PySem PySem.Spec PyProof.Rows L2 LamX
end DL
namespace DL
open PySem PySem.Spec PyProof.Rows L2 LamX
/-- one parameter x; else captured names and globals -/
structure LamS1 (sc scope:Scope) (x:Str):Prop where
  kind:scope.kind=.function
  co:scope.isCoroutine=false
  gen:scope.isGenerator=false
  par:scope.names.lookup x=some .local
  own:∀y∈scope.names,y.2=.local→y.1=x
  nocell:∀y∈scope.names,y.2≠.cell
  free:∀y∈scope.names,y.2=.free→sc.names.lookup y.1=some .cell∨sc.names.lookup y.1=some .free
def ve (sc scope:Scope) (x:Str):Bool:=
  decide (scope.kind=.function)&&!scope.isCoroutine&&!scope.isGenerator&&decide (scope.names.lookup x=some .local)&&scope.names.all fun y=>(!decide (y.2=.local)||decide (y.1=x))&&!decide (y.2=.cell)&&(!decide (y.2=.free)||decide (sc.names.lookup y.1=some .cell)||decide (sc.names.lookup y.1=some .free))
theorem vf {sc scope:Scope} {x:Str} (h:ve sc scope x=true):LamS1 sc scope x:=by
  unfold ve at h
  simp only[Bool.and_eq_true,Bool.or_eq_true,Bool.not_eq_true',decide_eq_true_eq,decide_eq_false_iff_not,List.all_eq_true] at h
  obtain ⟨⟨⟨⟨h1,h2⟩,h3⟩,h5⟩,h4⟩:=h
  refine ⟨h1,h2,h3,h5,fun y hy e=>?_,fun y hy=>(h4 y hy).1.2,fun y hy e=>?_⟩
  · rcases (h4 y hy).1.1 with z|z
    · exact absurd e z
    · exact z
  · rcases (h4 y hy).2 with (z|z)|z
    · exact absurd e z
    · exact .inl z
    · exact .inr z
theorem LamS1.has {X:Cx} {scope:Scope} {x:Str} (L:LamS1 X.env.scope scope x) (ok:X.Ok):∀y∈scope.names,y.2=.free→∃c,X.env.cells.lookup y.1=some c:=fun y hy e=>by
  rcases L.free y hy e with k|k
  · exact ok.has _ (.inl k)
  · exact ok.has _ (.inr k)
section
variable {X:Cx} {pins:List (Addr × Obj)} {σ:L2.St} {H HZ:Hp} {s s1:Shared}
theorem rj {A:Around} {outer:List Env} {E:XK} {scope:Scope} {f c':Addr} {h₁:Heap} {tk:Nat} {x:Str} {i:Nat} {v:V} {u:Value} (I:Inv X pins σ H s) (L:LamS1 X.env.scope scope x) (nd:X.N.Nodup) (hi:X.N[i]?=some x) (rv:L2.RelV v u) (e0:Env0 X.prog X.w X.K X.mg X.base A outer s1 HZ) (hd:A.handled=none)
    (un:Un (frs X.stack) [] H HZ s.heap s1.heap) (hns:h₁.Ns s1.heap.objs.size fun y=>([(x,u)]:List (Str × Value)).reverse.lookup y) (kp:∀b o,s1.heap.get? b=some o→h₁.get? b=some o) :
    Inv (lamCx X A outer s1 HZ E scope f c') [] (σ.set i (some v)) HZ { s1 with heap:=h₁,toks:=tk }:=by
  have hfree:=L.has I.ok
  have cm:∀ {y c},(cloFrom X.env.cells scope.names []).lookup y=some c→X.env.cells.lookup y=some c:=fun {y c} e=>by
    rcases cloFrom_mem (PySem.mem_of_lookup e) with hm|⟨h1,h2⟩
    · cases hm
    · obtain ⟨c1,hc⟩:=hfree _ h1 rfl
      have hc:X.env.cells.lookup y=some c1:=hc
      have e2:c=c1:=by
        rw[h2,hc]<;>rfl
      rw[e2]
      exact hc
  have look:∀ {y},scope.names.lookup y=some .free→∃c,(cloFrom X.env.cells scope.names []).lookup y=some c:=fun {y} hl=>by
    have hy:(y,NameKind.free)∈scope.names:=PySem.mem_of_lookup hl
    exact mem_lookup (cloFrom_has (cells:=X.env.cells) (acc:=[]) hy)
  have cellK:∀ {c:Addr} {v:Option Value},H c=none→s.heap.IsCell c v→h₁.IsCell c v:=fun {c v} n ⟨o,ho,hd⟩=>by
    obtain ⟨sl,q⟩:=un.any ho n (by simp)
    exact ⟨_,kp _ _ q,hd⟩
  have noA:∀b:Addr,b∉(lamCx X A outer s1 HZ E scope f c').ex:=fun b z=>absurd (show b∈([]:List Addr) from z) (by simp)
  have hil:i<σ.length:=by rw[I.len]; exact (List.getElem?_eq_some_iff.mp hi).1
  refine ⟨⟨e0.mod,L.kind,rfl,rfl,Nat.le_refl _,fun y z c e1 e2=>I.ok.inj y z c (cm e1) (cm e2),fun y hy=>?_,fun y c z _=>?_,fun _=>hd,Around.frames_deeper e0.frames,.inr ⟨rfl,rfl⟩,fun b z=>absurd z (noA b),e0.bs,e0.bsz,fun b _ _=>noA b,
      fun b z=>absurd z (noA b),e0.funs,e0.frf⟩,
    rfl,e0.bare,Un.kept kp,⟨_,hns,fun j y v' e1 e2 e3=>?_⟩,fun y c e=>?_,e0.hok.fresh (Nat.le_refl _),fun y c e=>?_,fun q hq=>absurd (show q∈([]:List (Addr × Obj))++[] from hq) (by simp),e0.hok.kept kp,by rw[List.length_set]; exact I.len⟩
  · have hy:scope.names.lookup y=some .cell∨scope.names.lookup y=some .free:=hy
    rcases hy with hy|hy
    · exact absurd rfl (L.nocell _ (PySem.mem_of_lookup hy))
    · exact look hy
  · have z:false=true:=z
    cases z
  · have e3:Vis scope y:=e3
    by_cases hj:j=i
    · subst hj
      have hyx:y=x:=Option.some.inj (e1.symm.trans hi)
      subst hyx
      rw[List.getElem?_set_self hil] at e2
      cases e2
      refine ⟨u,rv,.inl ⟨L.par,?_⟩⟩
      simp[List.lookup]
    · rw[List.getElem?_set_ne (Ne.symm hj)] at e2
      have hyx:y≠x:=fun z=>hj (nodup_ix nd (by rw[z] at e1; exact e1) hi)
      rcases e3 with k|k|k
      · exact absurd (L.own _ (PySem.mem_of_lookup k) rfl) hyx
      · exact absurd rfl (L.nocell _ (PySem.mem_of_lookup k))
      · obtain ⟨m,hn,hl⟩:=I.loc
        have hvis:Vis X.env.scope y:=(L.free _ (PySem.mem_of_lookup k) rfl).elim (fun k=>.inr (.inl k)) (fun k=>.inr (.inr k))
        obtain ⟨w',r,q⟩:=hl j y v' e1 e2 hvis
        obtain ⟨c2,h2⟩:=look k
        refine ⟨w',r,.inr ⟨.inr k,c2,h2,?_⟩⟩
        have c1:=cm h2
        rcases q with ⟨k',_⟩|⟨_,c3,e',z⟩
        · have k':X.env.scope.names.lookup y=some .local:=k'
          rcases L.free _ (PySem.mem_of_lookup k) rfl with k2|k2<;>rw[show X.env.scope.names.lookup y=_ from k2] at k'<;>cases k'
        · rw[c1] at e'
          cases e'
          exact cellK (I.freeC y _ c1) z
  · obtain ⟨w',z⟩:=I.cell y c (cm e)
    exact ⟨w',cellK (I.freeC y c (cm e)) z⟩
  · obtain ⟨v,o,ho,hd⟩:=I.cell y c (cm e)
    exact un.free c o ho (I.freeC y c (cm e)) (by simp)
/-- f(u),f such a lambda,by a built-in called in this frame -/
theorem uS {A:Around} {f c':Addr} {pm ctv:Value} {params:Arguments} {body:Expr} {scope:Scope} {k i:Nat} {x:Str} {v:V} {u:Value} {tb:TE} {Q:VK} (I:Inv X pins σ H s) (hA:Env0 X.prog X.w X.K X.mg X.base A X.stack s H) (L:LamS1 X.env.scope scope x) (nd:X.N.Nodup) (hi:X.N[i]?=some x)
    (hf:s.heap.get? f=some (PySem.W.kla_obj "<lambda>" (X.env.qual++"<lambda>") params body scope (cloFrom X.env.cells scope.names []) pm c' ctv)) (hco:H c'=some (CodeO c' (X.env.qual++"<lambda>")))
    (hbind:bindArgs (PySem.W.kla_fn "<lambda>" (X.env.qual++"<lambda>") params body scope (cloFrom X.env.cells scope.names []) pm (.ref c') ctv) ⟨[u],[]⟩=pure [(x,u)])
    (hr:Room (k+1) A) (rv:L2.RelV v u)
    (hbody:∀(A:Around) (outer:List Env) (s:Shared) (H:Hp),Room k (A.deeper (lamEnv X scope s.heap.objs.size f c'))→PE (lamCx X A outer s H (fun _ _ _=>False) scope f c') body tb) (h:tb (σ.set i (some v)) H Q) :
    wpAny (model X.prog X.w) A (PySem.call (.ref f) [u]) (EP X pins σ Q) (fun _ _=>False) s:=by
  obtain ⟨⟨oc,vs,t,hoc,hdc,hvc⟩,_,_⟩:=I.hok c' _ hco
  have rc:codeAny (model X.prog X.w) A (.call (.ref f) ⟨[u],[]⟩) (CR (L2.CX X.prog X.w) X.stack X.prog X.w H s Q (fun _ _ _=>False)) s:=by
    refine PySem.W.kla_callFunE hr.depth hf rfl L.co L.gen rfl ⟨c',oc,vs,t,rfl,hoc,hdc,hvc⟩ ?_
    rw[hbind]
    refine wpAny_pure (wpAny_newFunctionEnv (fun y hy=>L.nocell y hy) (fun y hy=>by rw[List.mem_singleton.mp hy]; exact L.par) (fun h₁ hns hsb=>⟨I.nolimit.fresh _ hsb,?_⟩) L.kind)
    show codeAny _ _ (.expr body (lamEnv X scope s.heap.objs.size f c')) _ _
    have kp:∀b o,s.heap.get? b=some o→h₁.get? b=some o:=fun b o e=>hsb.extBut b o (Nat.ne_of_lt (Heap.lt_size e)) (Heap.get?_push_of_some _ e)
    have J:Inv (lamCx X A X.stack s H (fun _ _ _=>False) scope f c') [] (σ.set i (some v)) H { s with heap:=h₁,toks:=s.toks+([(x,u)]:List (Str × Value)).length }:=
      rj I L nd hi rv hA hr.hd Un.refl hns kp
    refine PySem.W.kla_codeExpr (wpAny_mono ((hbody _ _ s H (hr.deeper _)).run [] _ _ H Q J h) (fun v s' hq=>?_) fun e s' hq=>hq)
    obtain ⟨w',H',J',rv,q⟩:=hq
    exact ⟨w',H',J'.os,J'.bare,J'.base,J'.hok,rv,q⟩
  refine wpAny_call (codeAny_mono rc fun r s' hq=>?_)
  cases r with
  | error e=>
    have hq:L2.CX X.prog X.w X.stack H s (fun _ _ _=>False) e s':=hq
    obtain ⟨_,_,_,_,_,_,_,_,_,_,_,_,_,_,_,_,z⟩:=hq
  | ok fl=>
    cases fl with
    | ret u=>exact I.after hq
    | next=>exact False.elim hq
    | brk=>exact False.elim hq
    | cont=>exact False.elim hq
end
end DL
namespace DL
open PySem PySem.Spec PyProof.Rows L2 LamX PySem.W
section
variable {prog:Program} {w:World} {A:Around} {E:Value→Shared→Prop} {s:Shared} {a kS:Addr} {vs:List Value} {keys:Array Value} {e e1:Nat} {P:PySem.Fin→Shared→Prop} {kz:List PyData}
/-- all but two objects kept -/
def rm (a kS:Addr) (h h':Heap):Prop:=∀b o,b≠a→b≠kS→h.get? b=some o→h'.get? b=some o
theorem nW {st:SortSt} {out:List Value} (nk:s.heap.get? kS=some (seqObj "list" keys e)) (na:s.heap.get? a=some (seqObj "list" #[] e1)) (hka:kS≠a)
    (hsz:keys.size≤sizeLine) (hz:out.length≤sizeLine) (hfl:failedOf st=none) (ho:(arrOf st).map (·.2)=out.toArray)
    (h:∀h' tk c,rm a kS s.heap h'→(∃o,h'.get? kS=some o)→h'.get? a=some (seqObj "list" out.toArray c)→P (.done (.ret .none)) { s with heap:=h',toks:=tk }) :
    wpAny (model prog w) A (ksk_tail a false e1 (.ref kS) st) P E s:=by
  have s1:=Heap.SameBut.update s.heap kS (Obj.mapSeq fun _=>(#[]:Array Value))
  have na1:(s.heap.update kS (Obj.mapSeq fun _=>(#[]:Array Value))).get? a=some (seqObj "list" #[] e1):=(s1.2 a hka.symm).trans na
  have s2:=Heap.SameBut.update (s.heap.update kS (Obj.mapSeq fun _=>(#[]:Array Value))) a (Obj.mapSeq fun _=>out.toArray)
  obtain ⟨c2,hc2⟩:∃c2,((s.heap.update kS (Obj.mapSeq fun _=>(#[]:Array Value))).update a (Obj.mapSeq fun _=>out.toArray)).get? a=some (seqObj "list" out.toArray c2):=
    ⟨_,get?_update_seq na1 fun _=>out.toArray⟩
  obtain ⟨c1,hc1⟩:∃c1,(s.heap.update kS (Obj.mapSeq fun _=>(#[]:Array Value))).get? kS=some (seqObj "list" #[] c1):=⟨_,get?_update_seq nk fun _=>#[]⟩
  have hz2:out.toArray.size≤sizeLine+1:=by
    rw[List.size_toArray]
    exact Nat.le_succ_of_le hz
  unfold ksk_tail
  try dsimp only
  rw[if_neg Bool.false_ne_true,ho]
  refine wpAny_bind (listUpdate_at nk rfl ?_ hsz (Nat.zero_le _))
  refine wpAny_bind (wpAny_letGo ?_)
  refine wpAny_bind (seqEpoch_at na1 rfl ?_)
  refine wpAny_bind (listUpdate_at na1 rfl ?_ (Nat.zero_le _) hz2)
  rw[hfl]
  simp only[bne_self_eq_false,Bool.false_eq_true,if_false]
  exact wpAny_pure (h _ _ c2 (fun b o h1 h2 q=>(s2.2 b h1).trans ((s1.2 b h2).trans q)) ⟨_,(s2.2 kS hka).trans hc1⟩ hc2)
theorem vg {κ:PyProof.Rows.KeyKind} (nk:s.heap.get? kS=some (seqObj "list" keys e)) (na:s.heap.get? a=some (seqObj "list" #[] e1)) (hka:kS≠a)
    (S:SortsAt prog w A s κ keys.toList) (hsz:keys.size=vs.length) (hZ:vs.length≤sizeLine)
    (h:∀h' tk c,rm a kS s.heap h'→(∃o,h'.get? kS=some o)→h'.get? a=some (seqObj "list" (sortVals κ false keys.toList vs).toArray c)→P (.done (.ret .none)) { s with heap:=h',toks:=tk }) :
    wpAny (model prog w) A (ksk_end a false vs.toArray e1 (.ref kS) keys) P E s:=by
  obtain ⟨kd,h1,h2⟩:=S.kind
  have hkl:keys.toList.length=vs.length:=by
    rw[Array.length_toList]
    exact hsz
  have hK:PyProof.Rows.KeysOf κ (keys.zip vs.toArray):=keysOf_zip S.keys
  have hol:(sortVals κ false keys.toList vs).length=vs.length:=sortVals_length false hkl
  have hss:(keys.zip vs.toArray).size=vs.length:=by rw[Array.size_zip,hsz,List.size_toArray,Nat.min_self]
  have fin:∀st':SortSt,(arrOf st').Perm (keys.zip vs.toArray)→SortedToK κ (arrOf st') (keys.zip vs.toArray).size→
      Stable κ (arrOf st') (keys.zip vs.toArray)→(arrOf st').map (·.2)=(sortVals κ false keys.toList vs).toArray:=by
    intro st' hp hs ht
    have e:=sort_out (rev:=false) (keys:=keys) (items:=vs.toArray) (xs:=arrOf st') (κ:=κ) hK hp hs ht
    have e':=congrArg List.toArray e
    rw[Array.toArray_toList] at e'
    exact e'
  unfold ksk_end
  try dsimp only
  rw[if_neg Bool.false_ne_true,if_neg Bool.false_ne_true]
  by_cases hl2:vs.toArray.size<2
  · rw[if_pos hl2,if_pos hl2]
    refine wpAny_bind (wpAny_pure ?_)
    rw[StateT.run_pure]
    refine wpAny_bind (wpAny_pure ?_)
    try dsimp only
    refine nW (st:=SortSt.mk' general' (keys.zip vs.toArray) #[] 7 none) nk na hka (by rw[hsz]; exact hZ) (by rw[hol]; exact hZ) rfl (fin _ (Array.Perm.refl _) ?_ (Stable.refl _)) h
    intro i j hij hj
    rw[hss] at hj
    rw[List.size_toArray] at hl2
    have:i=j:=by omega
    subst this
    exact KeyOrd.kle_refl _
  · rw[if_neg hl2,if_neg hl2]
    rw[List.size_toArray] at hl2
    refine wpAny_bind (h2 (by omega) _ ?_)
    refine wpAny_bind (wpAny_mono (H.wpS_sortRunsSt (κ:=κ) (kd:=kd) (a₀:=keys.zip vs.toArray)
      (st:=SortSt.mk' kd (keys.zip vs.toArray) #[] 7 none)
      (Q:=fun _ st'=>failedOf st'=none∧(arrOf st').map (·.2)=(sortVals κ false keys.toList vs).toArray)
      h1 hK ⟨Array.Perm.refl _,rfl,rfl⟩ rfl (Stable.refl _) (by rw[hss]; omega) fun st' a1 a2 a3 a4=>⟨a2,fin st' a1 a3 a4⟩) ?_ fun _ _ e=>e)
    rintro ⟨⟨⟩,st'⟩ s' ⟨rfl,hf,ho⟩
    try dsimp only at ho ⊢
    exact nW nk na hka (by rw[hsz]; exact hZ) (by rw[hol]; exact hZ) hf ho h
end
section
variable {X:Cx} {pins:List (Addr × Obj)} {σ:L2.St} {H:Hp} {s:Shared} {h':Heap}
/-- two untracked records of ours have turned -/
theorem qD {t':Nat} {a kS:Addr} (I:Inv X pins σ H s) (k:rm a kS s.heap h') (fa:FpOk X pins H a) (fk:FpOk X pins H kS):Inv X pins σ H { s with heap:=h',toks:=t' }:=by
  have nit:∀b u,H b=some u→b≠a∧b≠kS:=fun b u e=>⟨fun z=>(by rw[z,fa.1] at e; cases e),fun z=>(by rw[z,fk.1] at e; cases e)⟩
  refine I.step (g':=s.gens) (d':=s.drawn) (ch:=[a,kS]) (fun b hb=>?_) (fun b o _ _ hc e _=>k b o (fun z=>hc (by simp[z])) (fun z=>hc (by simp[z])) e) (fun b o _ _ hc e _=>⟨o.slots,k b o (fun z=>hc (by simp[z])) (fun z=>hc (by simp[z])) e⟩) (fun _ _ _ _ n=>n)
    (fun b o hc e=>⟨o,k b o (fun z=>hc (by simp[z])) (fun z=>hc (by simp[z])) e⟩) (fun _ _ e=>e) (fun _ _ _ e=>e) (fun b ps e=>⟨#[],by rw[e]; simp⟩) (fun m hm=>?_) (fun b u e=>?_) I.bare
  · have e:b=a∨b=kS:=by simpa using hb
    rcases e with rfl|rfl
    · exact ⟨fa.2.2.2.1,fa.2.1,fa.2.2.2.2.1,fa.2.2.2.2.2⟩
    · exact ⟨fk.2.2.2.1,fk.2.1,fk.2.2.2.2.1,fk.2.2.2.2.2⟩
  · obtain ⟨o,es,ep,ho,r⟩:=hm
    exact ⟨o,es,ep,k _ o (Ne.symm fa.2.1) (Ne.symm fk.2.1) ho,r⟩
  · refine (I.hok b u e).stay (fun c v hc q=>k c v ?_ ?_ q) (fun _ q=>q) fun _ _ q=>q
    · rcases hc with z|z
      · rw[z]; exact (nit b u e).1
      · exact (nit c _ z).1
    · rcases hc with z|z
      · rw[z]; exact (nit b u e).2
      · exact (nit c _ z).2
theorem lP {H':Hp} {pins':List (Addr × Obj)} {a:Addr} (f:FpOk X pins H a) (h:H' a=none) (hp:∀p∈pins',p.1≠a):FpOk X pins' H' a:=
  ⟨h,f.2.1,f.2.2.1,f.2.2.2.1,f.2.2.2.2.1,fun p hq=>(List.mem_append.mp hq).elim (fun z=>f.2.2.2.2.2 p (List.mem_append_left _ z)) (hp p)⟩
/-- the keys are told one by one -/
theorem uT {A:Around} {E:Value→Shared→Prop} {f a kS:Addr} {vs:List Value} {kz:List PyData} {e1:Nat} {P:PySem.Fin→Shared→Prop} {fo:Obj} (G:List V→Hp→Prop) (I:Inv X pins σ H s)
    (nk:s.heap.get? kS=some (seqObj "list" #[] 0)) (na:s.heap.get? a=some (seqObj "list" #[] e1)) (hka:kS≠a) (fa:FpOk X pins H a) (fk:FpOk X pins H kS)
    (hf:s.heap.get? f=some fo) (hfn:H f=none) (hfl:f≠X.env.locals) (hfs:f∉X.fs) (hfc:∀v,fo.data≠.cell v) (hfa:f≠a) (hfk:f≠kS)
    (hlen:kz.length=vs.length) (hZ:vs.length≤sizeLine) (hal:AllAlike kz) (hsk:Sortable kz) (hu:∀d,d∈kz→A.units+d.depth<cLine) (G0:G [] H)
    (turn:∀(v:Value) (pins':List (Addr × Obj)) (s':Shared) (H':Hp) (kvs:List V),vs[kvs.length]?=some v→Inv X pins' σ H' s'→s'.heap.get? f=some fo→H' f=none→G kvs H'→
      wpAny (model X.prog X.w) A (PySem.call (.ref f) [v]) (EP X pins' σ fun kv H''=>G (kvs++[kv]) H'') (fun _ _=>False) s')
    (reads:∀(pins':List (Addr × Obj)) (s':Shared) (H':Hp) (kvs:List V) (us:List Value),Inv X pins' σ H' s'→G kvs H'→kvs.length=vs.length→Vals kvs us→EachIs (fun u d=>∃as,Reads s'.heap u d as) us kz)
    (h:∀s' H' kvs out c,Inv X pins σ H' s'→G kvs H'→kvs.length=vs.length→H' a=none→s'.heap.get? a=some (seqObj "list" (List.toArray out) c)→KeyedOut false kz vs out→P (.done (.ret .none)) s') :
    wpAny (model X.prog X.w) A (ksk_rest a (.ref f) false vs.toArray e1 (.ref kS)) P E s:=by
  unfold ksk_rest
  refine wpAny_bind (wpAny_rule ?_)
  first
    | rw[List.forIn_toArray]
    | (rw[←Array.forIn_toList]; simp only[List.toList_toArray])
    | rw[←Array.forIn_toList]
  refine wpAny_bind (ksk_fold (fun j s'=>∃(kA:Array Value) (e:Nat) (H':Hp) (kvs:List V),Inv X pins σ H' s'∧s'.heap.get? kS=some (seqObj "list" kA e)∧s'.heap.get? a=some (seqObj "list" #[] e1)∧s'.heap.get? f=some fo∧H' a=none∧H' kS=none∧H' f=none∧Vals kvs kA.toList∧kvs.length=j∧G kvs H') vs 0 s
    ⟨#[],0,H,[],I,nk,na,hf,fa.1,fk.1,hfn,.nil,rfl,G0⟩ ?step ?done)
  case step=>
    rintro j x s' hx ⟨kA,e,H',kvs,I',nk',na',hf',ha',hk',hff',rv,hkl,g⟩
    simp only[Nat.zero_add] at hkl ⊢
    have hj:j<vs.length:=(List.getElem?_eq_some_iff.mp hx).1
    have hz:kA.size≤vs.length:=by
      have:=rv.length
      simp at this
      omega
    have np:∀p∈pins,p.1≠a∧p.1≠kS:=fun p hp=>⟨fa.2.2.2.2.2 p (List.mem_append_right _ hp),fk.2.2.2.2.2 p (List.mem_append_right _ hp)⟩
    have Ip:Inv X (pins++[(a,seqObj "list" #[] e1),(kS,seqObj "list" kA e),(f,fo)]) σ H' s':=I'.pins_of fun p hp=>by
      rcases List.mem_append.mp hp with z|z
      · exact I'.pin p (List.mem_append_right _ z)
      · simp only[List.mem_cons,List.not_mem_nil,or_false] at z
        rcases z with rfl|rfl|rfl
        · exact ⟨na',ha',fa.2.1,fa.2.2.1,fun v z=>by cases z⟩
        · exact ⟨nk',hk',fk.2.1,fk.2.2.1,fun v z=>by cases z⟩
        · exact ⟨hf',hff',hfl,hfs,hfc⟩
    refine wpAny_bind (wpAny_attempt (wpAny_mono (turn x _ s' H' kvs (by rw[hkl]; exact hx) Ip hf' hff' g) (fun v s'' he=>?_) fun _ _ hF=>hF.elim))
    obtain ⟨kv,H2,I2,rkv,g2⟩:=he
    have pa:=I2.pin (a,seqObj "list" #[] e1) (List.mem_append_right _ (List.mem_append_right _ (by simp)))
    have pk:=I2.pin (kS,seqObj "list" kA e) (List.mem_append_right _ (List.mem_append_right _ (by simp)))
    have pf:=I2.pin (f,fo) (List.mem_append_right _ (List.mem_append_right _ (by simp)))
    have I3:Inv X pins σ H2 s'':=I2.pins_of fun p hp=>I2.pin p (List.mem_append_right _ (List.mem_append_left _ hp))
    try dsimp only
    have s1:=Heap.SameBut.update s''.heap kS (Obj.mapSeq (·.push v))
    obtain ⟨c2,hc2⟩:∃c2,(s''.heap.update kS (Obj.mapSeq (·.push v))).get? kS=some (seqObj "list" (kA.push v) c2):=⟨_,get?_update_seq pk.1 (·.push v)⟩
    have fk2:FpOk X pins H2 kS:=lP fk pk.2.1 fun p hp=>(np p hp).2
    refine wpAny_bind (listUpdate_at pk.1 rfl ?_ (Nat.le_trans hz hZ) (Nat.le_trans (Nat.le_of_eq (Array.size_push ..)) (Nat.succ_le_succ (Nat.le_trans hz hZ))))
    have I4:Inv X pins σ H2 { s'' with heap:=s''.heap.update kS (Obj.mapSeq (·.push v)) }:=I3.turned (t':=s''.toks) (it:=kS) (fun b o hb q=>(s1.2 b hb).trans q) fk2.1 fk2.2.1 fk2.2.2.2.1 fk2.2.2.2.2.1 fk2.2.2.2.2.2
    have rv2:Vals (kvs++[kv]) (kA.push v).toList:=by
      rw[Array.toList_push]
      exact Vals.append rv (.cons rkv .nil)
    exact wpAny_pure ⟨rfl,kA.push v,c2,H2,kvs++[kv],I4,hc2,(s1.2 a hka.symm).trans pa.1,(s1.2 f hfk).trans pf.1,pa.2.1,pk.2.1,pf.2.1,rv2,by simp[hkl],g2⟩
  case done=>
    rintro s' ⟨kA,e,H',kvs,I',nk',na',hf',ha',hk',hff',rv,hkl,g⟩
    have hkl:kvs.length=vs.length:=by simpa using hkl
    have hr:=reads pins s' H' kvs kA.toList I' g hkl rv
    have hsz:kA.size=vs.length:=by
      have:=rv.length
      simp at this
      omega
    have np:∀p∈pins,p.1≠a∧p.1≠kS:=fun p hp=>⟨fa.2.2.2.2.2 p (List.mem_append_right _ hp),fk.2.2.2.2.2 p (List.mem_append_right _ hp)⟩
    try dsimp only
    refine wpAny_bind (listItems_at nk' rfl ?_)
    exact vg (κ:=dataKind s'.heap kz) nk' na' hka (SortsAt.data (s:=s') hr hal hsk hu) hsz hZ fun h3 tk3 c k3 _ n3=>
      h _ H' kvs _ c (qD I' k3 (lP fa ha' fun p hp=>(np p hp).1) (lP fk hk' fun p hp=>(np p hp).2)) g hkl ha' n3 ⟨s'.heap,kA.toList,hal,rfl,hr⟩
end
end DL
namespace DL
open PySem PySem.Spec PyProof.Rows L2 LamX PySem.W
section
variable {X:Cx} {pins:List (Addr × Obj)} {σ:L2.St} {H:Hp} {s:Shared} {h':Heap}
/-- an untracked object of ours is tracked from now on -/
theorem uU {a:Addr} {o:HO} (I:Inv X pins σ H s) (fa:FpOk X pins H a) (hz:X.s_0.heap.objs.size≤a) (new:ObjOk X.prog X.w (upd H a o) s.heap a o):Inv X pins σ (upd H a o) s:=by
  have nn:∀b u,H b=some u→b≠a:=fun b u e z=>by rw[z,fa.1] at e; cases e
  have na:∀b:Addr,b≠a→upd H a o b=H b:=fun b n=>upd_ne n
  have n0:∀b ob,X.s_0.heap.get? b=some ob→b≠a:=fun b ob e z=>absurd (Nat.lt_of_lt_of_le (Heap.lt_size e) (by rw[z]; exact hz)) (Nat.lt_irrefl _)
  refine ⟨I.ok,I.os,I.bare,⟨fun b ob e n hb hx=>I.base.keep b ob e n hb hx,fun b ob e n hb hx=>I.base.slot b ob e n hb hx,fun b ob e n hx=>by rw[na b (n0 b ob e)]; exact I.base.free b ob e n hx,fun b ob e hx=>I.base.there b ob e hx,fun b xs e=>?_,fun b ob xs e=>?_,fun b ps e=>?_⟩,I.loc,I.cell,?_,fun x c e=>?_,fun p hp=>?_,fun b u e=>?_,I.len⟩
  · have:=I.base.tups b xs e
    rw[na b (nn b _ this)]; exact this
  · have:=I.base.frzs b ob xs e
    rw[na b (nn b _ this)]; exact this
  · obtain ⟨m,q⟩:=I.base.tbls b ps e
    exact ⟨m,by rw[na b (nn b _ q)]; exact q⟩
  · rw[na _ (Ne.symm fa.2.1)]; exact I.free
  · rw[na _ (fa.2.2.2.2.1 x c e)]; exact I.freeC x c e
  · obtain ⟨e1,e2,e3,e4,e5⟩:=I.pin p hp
    exact ⟨e1,by rw[na _ (fa.2.2.2.2.2 p hp)]; exact e2,e3,e4,e5⟩
  · by_cases hb:b=a
    · subst hb
      rw[upd_same] at e
      cases e
      exact new
    · rw[na b hb] at e
      exact (I.hok b u e).stay (fun c v _ q=>q) (fun c q=>by rw[na c (nn c _ q)]; exact q) fun c xs q=>by rw[na c (nn c _ q)]; exact q
theorem xZ {l f:Addr} {vs:List Value} {kz:List PyData} {fo:Obj} {E:Value→Shared→Prop} {Q:Value→Shared→Prop} (G:List V→Hp→Prop) (I:Inv X pins σ H s) (hl:s.heap.IsList l vs.toArray) (hL:vs.length≤sizeLine)
    (hf:s.heap.get? f=some fo) (hfn:H f=none) (hfl:f≠X.env.locals) (hfs:f∉X.fs) (hfc:∀v,fo.data≠.cell v)
    (hlen:kz.length=vs.length) (hal:AllAlike kz) (hsk:Sortable kz) (hu:∀d,d∈kz→X.A.units+2+d.depth<cLine) (G0:G [] H)
    (turn:∀(v:Value) (pins':List (Addr × Obj)) (s':Shared) (H':Hp) (kvs:List V),vs[kvs.length]?=some v→Inv X pins' σ H' s'→s'.heap.get? f=some fo→H' f=none→G kvs H'→
      wpAny (model X.prog X.w) X.A.in1.in1 (PySem.call (.ref f) [v]) (EP X pins' σ fun kv H''=>G (kvs++[kv]) H'') (fun _ _=>False) s')
    (reads:∀(pins':List (Addr × Obj)) (s':Shared) (H':Hp) (kvs:List V) (us:List Value),Inv X pins' σ H' s'→G kvs H'→kvs.length=vs.length→Vals kvs us→EachIs (fun u d=>∃as,Reads s'.heap u d as) us kz)
    (h:∀s' H' kvs D out c,Inv X pins σ H' s'→G kvs H'→kvs.length=vs.length→FpOk X pins H' D→X.s_0.heap.objs.size≤D→s'.heap.get? D=some (seqObj "list" (List.toArray out) c)→KeyedOut false kz vs out→Q (.ref D) s') :
    wpAny (model X.prog X.w) X.A (PySem.call (.builtin "sorted") [.ref l] [(Str.ofString "key",.ref f)]) Q E s:=by
  have hsz:s.heap.objs.size≤s.heap.objs.size+1:=Nat.le_succ _
  have hHa:H (s.heap.objs.size+1)=none:=I.hok.fresh hsz
  have fa:FpOk X pins H (s.heap.objs.size+1):=I.fpOk hsz hHa
  have hfa:f≠s.heap.objs.size+1:=Nat.ne_of_lt (Nat.lt_succ_of_lt (Heap.lt_size hf))
  refine sorted_of_sort hl hL (ksk_s1 _ _) (fun _=>ksk_l1 _ _) fun E'=>?_
  rw[ksk_t1]
  have ho:=copyHeap_at s.heap vs
  generalize ha:s.heap.objs.size+1=a at *
  obtain ⟨e1,ho1⟩:∃e1,((copyHeap s.heap vs).update a (Obj.mapSeq fun _=>(#[]:Array Value))).get? a=some (seqObj "list" #[] e1):=⟨_,get?_update_seq ho fun _=>#[]⟩
  have hkS:(((copyHeap s.heap vs).update a (Obj.mapSeq fun _=>(#[]:Array Value))).push (seqObj "tuple" vs.toArray 0)).objs.size=(copyHeap s.heap vs).objs.size+1:=by rw[size_push',Heap.size_update]
  have hac:a<(copyHeap s.heap vs).objs.size:=Heap.lt_size ho
  unfold ksk_tree
  refine wpAny_bind (listItems_at ho rfl ?_)
  refine wpAny_bind (listUpdate_at ho rfl ?_ (by rw[List.size_toArray]; exact hL) (Nat.zero_le _))
  refine wpAny_bind (seqEpoch_at ho1 rfl ?_)
  refine wpAny_bind (wpAny_newTuple ?_ (by show vs.length≤_; exact hL))
  refine wpAny_bind (wpAny_newList ?_ (Nat.zero_le _))
  refine wpAny_holding ?_
  have kp:∀b o,s.heap.get? b=some o→((((copyHeap s.heap vs).update a (Obj.mapSeq fun _=>(#[]:Array Value))).push (seqObj "tuple" vs.toArray 0)).push (seqObj "list" #[] 0)).get? b=some o:=fun b o e=>by
    have hb:b≠a:=by rw[←ha]; exact Nat.ne_of_lt (Nat.lt_succ_of_lt (Heap.lt_size e))
    exact Heap.get?_push_of_some _ (Heap.get?_push_of_some _ (((Heap.SameBut.update (copyHeap s.heap vs) a (Obj.mapSeq fun _=>(#[]:Array Value))).2 b hb).trans (copyHeap_old e)))
  have I1:Inv X pins σ H { s with heap:=(((copyHeap s.heap vs).update a (Obj.mapSeq fun _=>(#[]:Array Value))).push (seqObj "tuple" vs.toArray 0)).push (seqObj "list" #[] 0) }:=I.kept (t':=s.toks) kp
  have hks0:s.heap.objs.size≤(((copyHeap s.heap vs).update a (Obj.mapSeq fun _=>(#[]:Array Value))).push (seqObj "tuple" vs.toArray 0)).objs.size:=by rw[hkS]; omega
  refine uT (kz:=kz) (fo:=fo) (s:={ s with heap:=(((copyHeap s.heap vs).update a (Obj.mapSeq fun _=>(#[]:Array Value))).push (seqObj "tuple" vs.toArray 0)).push (seqObj "list" #[] 0) }) (kS:=(((copyHeap s.heap vs).update a (Obj.mapSeq fun _=>(#[]:Array Value))).push (seqObj "tuple" vs.toArray 0)).objs.size)
    G I1 (Heap.get?_push_size _ rfl) (Heap.get?_push_of_some _ (Heap.get?_push_of_some _ ho1)) (Nat.ne_of_gt (Nat.lt_of_lt_of_le hac (by rw[hkS]; exact Nat.le_succ _))) fa (I.fpOk hks0 (I.hok.fresh hks0)) (kp _ _ hf) hfn hfl hfs hfc hfa (Nat.ne_of_lt (Nat.lt_of_lt_of_le (Heap.lt_size hf) hks0)) hlen hL hal hsk hu G0 turn reads
    fun s' H' kvs out c I' g hk hHa' hD ko=>⟨rfl,h s' H' kvs a out c I' g hk (lP fa hHa' fun p hp=>fa.2.2.2.2.2 p (List.mem_append_right _ hp)) (by have:=I.sz; omega) hD ko⟩
end
end DL
namespace DL
open PySem PySem.Spec PyProof.Rows L2 LamX PySem.W
/-- the keys,one behind the other -/
def fG (mk:ME) (i:Nat) (env:En):List D→List D→Sto→Res (List D)
  | [],acc,S=>.ok acc S
  | d::ds,acc,S=>(mk (env.set i (some d)) S).bindS fun k S=>fG mk i env ds (acc++[k]) S
def iy (xs ks:List D):List D:=((xs.zip ks).mergeSort fun a b=>dle a.2 b.2).map (·.1)
def fz (m:ME) (i:Nat) (mk:ME):ME:=fun env S=>(m env S).bind fun d S=>match dU S d with
  | some xs=>(fG mk i env xs [] S).bindS fun ks S=>if eS ks=true∧xs.length≤1000000 then .ok (.loc S.length) (S++[.lst (iy xs ks)]) else .stuck
  | none=>.stuck
theorem nX {mk:ME} {i:Nat} {env:En}:∀ {ds acc ks:List D} {S Sn:Sto},fG mk i env ds acc S=.ok ks Sn→ks.length=acc.length+ds.length
  | [],acc,ks,S,Sn,h=>by unfold fG at h; cases h; simp
  | d::ds,acc,ks,S,Sn,h=>by
    unfold fG at h
    cases hm:mk (env.set i (some d)) S with
    | ok k S1=>rw[hm] at h; have:=nX h; simp at this ⊢; omega
    | exc e S1=>rw[hm] at h; cases h
    | stuck=>rw[hm] at h; cases h
section
variable {X:Cx} {W:WX} {e body:Expr} {p kpos lpos pos:Pos} {m mk:ME} {params:Arguments} {scope:Scope} {i k:Nat} {x:Str} {pq:Str × Option Str}
theorem qE {pins:List (Addr × Obj)} {s:Shared} {σ:L2.St} {H:Hp} {μ:Mu} (I:L2.Inv X pins σ H s):∀ {ds:List D} {vs:List V} {us:List Value},(∀d∈ds,dok 60 d=true)→RepAll X.K X.mg μ H ds vs→Vals vs us→PySem.W.EachIs (fun u d=>∃as,Reads s.heap u d as) us (ds.map pdF)
  | [],vs,us,_,ra,r=>by
    unfold RepAll at ra; subst ra; cases r; exact .nil
  | d::ds,vs,us,h,ra,r=>by
    unfold RepAll at ra
    obtain ⟨v,q,rfl,h1,h2⟩:=ra
    cases r with
    | cons r1 r2=>exact .cons (Dp.reads I _ _ _ (fU 60 d v (h d List.mem_cons_self) h1.w) r1) (qE I (fun x hx=>h x (List.mem_cons_of_mem _ hx)) h2 r2)
theorem qF:∀ {ds ks:List D} {vs:List V} {us:List Value},ds.length=vs.length→ks.length=vs.length→Vals vs us→PySem.W.EachIs (fun u (b:(D × V) × D)=>L2.RelV b.1.2 u) us ((ds.zip vs).zip ks)
  | [],[],[],_,_,_,r=>by cases r; exact .nil
  | d::ds,k::ks,v::vs,_,h,h2,r=>by
    cases r with
    | cons h3 h4=>
      rw[List.zip_cons_cons,List.zip_cons_cons]
      exact .cons h3 (qF (by simpa using h) (by simpa using h2) h4)
  | [],_,_::_,_,h,_,_=>by simp at h
  | _::_,_,[],_,h,_,_=>by simp at h
  | _,[],_::_,_,_,h,_=>by simp at h
  | _,_::_,[],_,_,h,_=>by simp at h
theorem mA:∀ {us:List Value} {bs:List ((D × V) × D)},PySem.W.EachIs (fun u (b:(D × V) × D)=>L2.RelV b.1.2 u) us bs→Vals (bs.map (·.1.2)) us
  | _,_,.nil=>.nil
  | _,_,.cons h t=>.cons h (mA t)
theorem vh {K:PySem.W.Frag} {mg:Str→Option Value} {μ:Mu} {H:Hp} {S:Sto} (rs:RelS K mg μ H S) {c a:Addr} {q:Str} (e:H a=some (CodeO c q)):a∉μ:=fun z=>by
  rcases z with z|z
  · obtain ⟨l,hl,e2⟩:=List.getElem_of_mem z
    exact rs.ncode (l:=l) (by rw[List.getElem?_eq_getElem hl,e2]) e
  · obtain ⟨u,h1,h2⟩:=rs.hid a z
    rw[e] at h1
    cases h1
    exact h2.nc c q rfl
theorem rp (hg:Gl X "sorted") (hm:X.mg "sorted"=none) (lh:LamHere X pq) (hr:Room (k+3) X.A) (hu:X.A.units+65<cLine) (L:LamS1 X.env.scope scope x) (nd:X.N.Nodup) (hi:X.N[i]?=some x) (ha:PE X e (tE X W m))
    (hbody:∀(A:Around) (outer:List Env) (s:Shared) (H:Hp) (f c':Addr),Room k (lamCx X A outer s H (fun _ _ _=>False) scope f c').A→PE (lamCx X A outer s H (fun _ _ _=>False) scope f c') body (tE (lamCx X A outer s H (fun _ _ _=>False) scope f c') W0 mk))
    (hdef:defaultsOf params X.env=([],[]):=by rfl)
    (hbind:∀(q:Str) (cl:List (Str × Addr)) (pm cv ctv u:Value),bindArgs (PySem.W.kla_fn "<lambda>" q params body scope cl pm cv ctv) ⟨[u],[]⟩=pure [(x,u)]:=by intros; rfl)
    (he:backTo pos (starEach [e] X.env)=(false,eval e X.env)::backTo pos (starEach [] X.env):=by rfl) (hpl:(backTo pos (starEach [e] X.env)).any (·.1)=false:=by rfl) (hs:starEach [e] X.env=(false,eval e X.env)::starEach [] X.env:=by rfl)
    (hall:(backToKw pos (keywordEach [⟨some (Str.ofString "key"),.Lambda params body scope lpos,kpos⟩] X.env)).all (·.1.isSome)=true:=by rfl) (hnone:(backToKw pos (keywordEach [⟨some (Str.ofString "key"),.Lambda params body scope lpos,kpos⟩] X.env)).any (·.1.isNone)=false:=by rfl) :
    PE X (.Call (.Name "sorted" p) [e] [⟨some (Str.ofString "key"),.Lambda params body scope lpos,kpos⟩] pos) (tE X W (fz m i mk)):=by
  refine ⟨fun pins s σ H Q I h=>?_⟩
  obtain ⟨env,S,μ,rl,o⟩:=h
  refine wpAny_Call_Name_kw (ld_blt I hg hm (u:=.builtin "sorted") (by rfl) ?_)
  refine PyProof.Rows.callWith_kw (thn ((pa_cons ha pa_nil hs).run pos pins s σ H (fun vs H1=>∃v,vs=[v]∧∃μ1 S1 d,Step μ H μ1 H1∧RelS X.K X.mg μ1 H1 S1∧Rep X.K X.mg μ1 H1 d v∧Out X.K X.mg W σ μ1 H1 (fun μ H a b=>Rep X.K X.mg μ H a b) Q (match dU S1 d with
      | some xs=>(fG mk i env xs [] S1).bindS fun ks S=>if eS ks=true∧xs.length≤1000000 then .ok (.loc S.length) (S++[.lst (iy xs ks)]) else .stuck
      | none=>.stuck)) I ⟨env,S,μ,rl,(Out.bind o).mono fun v H1 q=>⟨v,rfl,q⟩⟩) fun us s1 ⟨vs,H1,I1,r1,v,ev,μ1,S1,d,st1,rs1,rd,o1⟩=>?_) he hpl hall hnone
  subst ev
  cases r1 with
  | cons rv rn=>
  cases rn
  cases hso:dU S1 d with
  | none=>rw[hso] at o1; exact o1.elim
  | some xs=>
  rw[hso] at o1
  simp only at o1
  obtain ⟨a,itv,rfl,hsq,rxs⟩:=nQ rs1 rd hso
  cases hk:fG mk i env xs [] S1 with
  | exc _ _=>rw[hk] at o1; exact o1.elim
  | stuck=>rw[hk] at o1; exact o1.elim
  | ok ks Sn=>
  rw[hk] at o1
  simp only[Res.bindS] at o1
  split at o1
  case isFalse=>exact o1.elim
  rename_i hok
  have hxl:=rxs.length
  have hkl:ks.length=xs.length:=by simpa using nX hk
  obtain ⟨g1,g2,g3⟩:=iw hok.1
  refine wpAny_evalAll_cons (wpAny_bind (lam_make2 (T:=tbs X.K) I1 lh.tb lh.code lh.mem lh.uniq rs1.tab hdef (L.has I1.ok) fun f c' pm ctv H2 s2 I2 eN T2 hf hfn hfr hco=>wpAny_bind (wpAny_standAt (wpAny_pure ?_))))
  refine wpAny_evalAll_nil ?_
  obtain ⟨st2,rs2⟩:=uR rs1 eN T2
  have rxs2:=RepAll.step st2 _ _ rxs
  have hsq2:SqL X.K H2 a itv:=by
    rcases hsq with hq|hq
    · rcases hq with hq|⟨ob,hq⟩
      · exact .inl (.inl (eN _ _ hq fun ps z=>by cases z))
      · exact .inl (.inr ⟨ob,eN _ _ hq fun ps z=>by cases z⟩)
    · exact .inr hq
  obtain ⟨its,rvs,hl,hz⟩:=I2.list hsq2
  have hua:its.length=xs.length:=by rw[hxl,rvs.length]
  rw[Vals.ref1 (.cons rv .nil)]
  have hfL:f≠X.env.locals:=fun z=>by
    obtain ⟨m',⟨ob,es,ep,ho,hd,_⟩,_⟩:=I2.loc
    rw[←z,hf] at ho
    cases ho
    cases hd
  have hfs:f∉X.fs:=fun z=>hfr (by
    have z:f∈frs X.outer:=z
    show f∈frs X.stack
    rcases I2.ok.stk with e|⟨e,_⟩
    · rw[e]; exact z
    · rw[e]
      unfold frs at z ⊢
      rw[List.filterMap_cons]
      split
      · exact z
      · exact List.mem_cons_of_mem _ z)
  have hc2:H2 c'=some (CodeO c' (X.env.qual++"<lambda>")):=hco
  have hcn:c'∉μ1:=vh rs2 hc2
  have hr2:Room (k+1) X.A.in1.in1:=Room.in1 (Room.in1 hr)
  have hsz:its.length≤sizeLine:=by rw[hua]; exact cY hok.2
  show wpAny (model X.prog X.w) X.A (PySem.call (.builtin "sorted") [.ref a] [(Str.ofString "key",.ref f)]) _ _ s2
  refine xZ (kz:=ks.map pdF) (vs:=its) (fo:=PySem.W.kla_obj "<lambda>" (X.env.qual++"<lambda>") params body scope (cloFrom X.env.cells scope.names []) pm c' ctv)
    (fun kvs H'=>∃μ' S' ks',Step μ1 H2 μ' H'∧RelS X.K X.mg μ' H' S'∧RepAll X.K X.mg μ' H' ks' kvs∧fG mk i env (xs.drop kvs.length) ks' S'=.ok ks Sn)
    I2 hl.isList hsz hf hfn hfL hfs (fun v z=>by cases z) (by rw[List.length_map,hkl,hua]) g1 g2 (fun d hd=>?_) ⟨μ1,S1,[],.refl,rs2,.nil,hk⟩ ?turn ?reads ?fin
  · obtain ⟨b,hb,rfl⟩:=List.mem_map.mp hd
    have:=(dz 60 b (g3 b hb)).2
    omega
  case turn=>
    rintro v pins' s' H' kvs hv I' hf' hfn' ⟨μ',S',ks',st',rs',ra',hks⟩
    have hj:kvs.length<its.length:=(List.getElem?_eq_some_iff.mp hv).1
    have hd:xs[kvs.length]?=some (xs[kvs.length]'(by omega)):=List.getElem?_eq_getElem (by omega)
    obtain ⟨vv,hvv,rvv⟩:=rxs2.get hd
    obtain ⟨u,hu1,hu2⟩:=rvs.get hvv
    rw[hv] at hu1
    cases hu1
    generalize xs[kvs.length]'(by omega)=dd at hd rvv
    have hdr:xs.drop kvs.length=dd::xs.drop (kvs.length+1):=by
      rw[List.drop_eq_getElem_cons (by omega)]
      rw[List.getElem?_eq_getElem (by omega)] at hd
      cases hd
      rfl
    rw[hdr] at hks
    unfold fG at hks
    cases hm:mk (env.set i (some dd)) S' with
    | exc _ _=>rw[hm] at hks; cases hks
    | stuck=>rw[hm] at hks; cases hks
    | ok kk S2=>
      rw[hm] at hks
      simp only[Res.bindS] at hks
      have hco':H' c'=some (CodeO c' (X.env.qual++"<lambda>")):=st'.keep c' _ hc2 hcn (fun ps z=>codeO_ne ps z)
      refine uS (k:=k) (tb:=tE X W0 mk) I' I'.env0.in1.in1 L nd hi hf' hco' (hbind _ _ _ _ _ _) hr2 hu2 (fun A outer s H hr3=>?_) ?_
      · exact hbody A outer s H f c' hr3
      · refine ⟨env.set i (some dd),S',μ',⟨RelE.set (((rl.env.step st1).step st2).step st') (Rep.step st' _ _ rvv),rs'⟩,?_⟩
        rw[hm]
        exact fun μ3 H3 b st3 rs3 rb=>⟨μ3,S2,ks'++[kk],st'.trans st3,rs3,(RepAll.step st3 _ _ ra').append (.cons rb .nil),by rw[List.length_append]; exact hks⟩
  case reads=>
    rintro pins' s' H' kvs us I' ⟨μ',S',ks',st',rs',ra',hks⟩ hkv rus
    rw[List.drop_eq_nil_of_le (by omega)] at hks
    unfold fG at hks
    cases hks
    exact qE I' g3 ra' rus
  case fin=>
    rintro s' H' kvs Da out c I' ⟨μ',S',ks',st',rs',ra',hks⟩ hkv fD hz0 hD ko
    rw[List.drop_eq_nil_of_le (by omega)] at hks
    unfold fG at hks
    cases hks
    have hb:((xs.zip itv).zip ks).map (fun b=>pdF b.2)=ks.map pdF:=by
      have h1:((xs.zip itv).zip ks).map (·.2)=ks:=List.map_snd_zip (by rw[List.length_zip,hkl,hxl]; omega)
      conv=>rhs; rw[←h1,List.map_map]
      rfl
    rw[←hb] at ko
    have hE:=keyedOut_each (R:=fun u (b:(D × V) × D)=>L2.RelV b.1.2 u) (fun b=>pdF b.2) ko (qF hxl (by rw[hkl,hxl]) rvs)
    have rv':=mA hE
    generalize hbs:((xs.zip itv).zip ks).mergeSort (PySem.W.dataLe false fun b=>pdF b.2)=bs at hE rv'
    have hmem:∀b∈bs,b∈(xs.zip itv).zip ks:=fun b hb=>by rw[←hbs] at hb; exact List.mem_mergeSort.mp hb
    have rr:RepAll X.K X.mg μ' H' (bs.map (·.1.1)) (bs.map (·.1.2)):=by
      have:=j4 (K:=X.K) (mg:=X.mg) (μ:=μ') (H:=H') (ps:=bs.map (·.1)) (fun p hp=>by
        obtain ⟨b,hb,rfl⟩:=List.mem_map.mp hp
        exact Rep.step st' _ _ (ix rxs2 _ (List.of_mem_zip (hmem b hb)).1))
      rw[List.map_map,List.map_map] at this
      exact this
    have hby:bs.map (·.1.1)=iy xs ks:=by
      have h2:((xs.zip itv).zip ks).map (fun b:(D × V) × D=>(b.1.1,b.2))=xs.zip ks:=by
        have:∀(xs:List D) (vs:List V) (ks:List D),xs.length=vs.length→((xs.zip vs).zip ks).map (fun b:(D × V) × D=>(b.1.1,b.2))=xs.zip ks:=by
          intro xs
          induction xs with
          | nil=>intro vs ks _; simp
          | cons x xs ih=>
            intro vs ks h
            cases vs with
            | nil=>simp at h
            | cons v vs=>
              cases ks with
              | nil=>simp
              | cons k ks=>simp[ih vs ks (by simpa using h)]
        exact this xs itv ks hxl
      unfold iy
      have h3:(((xs.zip itv).zip ks).mergeSort (PySem.W.dataLe false fun b:(D × V) × D=>pdF b.2)).map (fun b:(D × V) × D=>(b.1.1,b.2))=(((xs.zip itv).zip ks).map (fun b:(D × V) × D=>(b.1.1,b.2))).mergeSort (fun a b=>dle a.2 b.2):=
        List.map_mergeSort (fun a _ b _=>rfl)
      rw[←h2,←h3,hbs,List.map_map]
      rfl
    have hlenb:(bs.map (·.1.2)).length≤sizeLine:=by
      rw[List.length_map,←hbs,List.length_mergeSort,List.length_zip,List.length_zip]
      omega
    rw[hby] at rr
    obtain ⟨q1,q2,q3⟩:=tL rs' fD.1 rr
    have I4:Inv X pins σ (upd H' Da (.lst (bs.map (·.1.2)))) s':=uU I' fD hz0 ⟨hlenb,out,c,rv',hD⟩
    exact ⟨.ref Da,_,I4,rfl,Out.of_step (st2.trans st') o1 _ _ _ q1 q2 q3⟩
end
end DL
namespace DL
open PySem PySem.Spec PyProof.Rows L2 LamX
section
variable {K:PySem.W.Frag} {mg:Str→Option Value} {μ μ':Mu} {H H':Hp} {S S':Sto} {env:En} {σ:L2.St} {l:Nat} {t:Bool} {kvs:List (D × D)} {a:Addr} {u:HO}
theorem RelS.dict (rs:RelS K mg μ H S) (e:S[l]?=some (.dct t kvs)):∃a u,μ.l[l]?=some a∧H a=some u∧Mut (some u)∧NF H a∧(∀ps,u≠.tbl ps)∧RepO K mg μ H (.dct t kvs) a:=by
  obtain ⟨a,h1,h2⟩:=rs.at_ l _ e
  cases t with
  | false=>
    obtain ⟨vs,ks,⟨q,hk⟩,rr⟩:=id h2
    exact ⟨a,_,h1,q,trivial,.of q,fun _ z=>(nomatch z),h2⟩
  | true=>
    obtain ⟨vs,ks,⟨q,hk⟩,rr⟩:=id h2
    exact ⟨a,_,h1,q,trivial,.of q,fun _ z=>(nomatch z),h2⟩
/-- locked -/
theorem xa (rl:Rl K mg μ H env σ S) (e:S[l]?=some (.dct t kvs)) (hμ:μ.l[l]?=some a) (ha:H a=some u) (nf:NF H a) (r:RepO K mg μ H (.dct t kvs) a) (od:Obj):Step μ H μ (upd H a (.frz od u))∧Rl K mg μ (upd H a (.frz od u)) env σ (S.set l (.fdc t kvs)):=by
  have st:Step μ H μ (upd H a (.frz od u)):=Step.write rl.sto hμ nf
  refine ⟨st,rl.env.step st,rl.sto.write hμ nf ?_⟩
  cases t with
  | false=>
    obtain ⟨vs,ks,⟨q,hk⟩,rr⟩:=r
    rw[ha] at q
    cases q
    exact ⟨vs,ks,⟨⟨od,upd_same⟩,hk⟩,RepAll.step st _ _ rr⟩
  | true=>
    obtain ⟨vs,ks,⟨q,hk⟩,rr⟩:=r
    rw[ha] at q
    cases q
    exact ⟨vs,ks,⟨⟨od,upd_same⟩,hk⟩,RepAll.step st _ _ rr⟩
/-- let go -/
theorem jS {od:Obj} (rs:RelS K mg μ H S) (hμ:μ.l[l]?=some a) (ha:H a=some u) (nf:NF H a) (nt:∀ps,u≠.tbl ps) (r:RepO K mg μ H (.dct t kvs) a) (st:Step μ (upd H a (.frz od u)) μ' H') (rs':RelS K mg μ' H' S') :
    H' a=some (.frz od u)∧StpW μ' H' μ' (upd H' a u)∧Step μ H μ' (upd H' a u)∧RelS K mg μ' (upd H' a u) (S'.set l (.dct t kvs)):=by
  have hf:H' a=some (.frz od u):=st.kf a od u upd_same
  have hμ':μ'.l[l]?=some a:=st.get hμ
  have ha':a∈μ'.l:=List.mem_of_getElem? hμ'
  have nh:a∉μ'.h:=rs'.dis a ha'
  have w:StpW μ' H' μ' (upd H' a u):=⟨⟨[],by simp⟩,fun _ h=>.inl h,fun b o e n _=>by
    have:b≠a:=fun z=>n (z▸.inl ha')
    rw[upd_ne this]; exact e⟩
  have ne:∀b o,H b=some o→b≠a→upd H a (.frz od u) b=some o:=fun b o e n=>by rw[upd_ne n]; exact e
  have whole:Step μ H μ' (upd H' a u):=by
    refine ⟨⟨⟨st.pre,fun b hb=>?_,fun b o e n nt=>?_⟩,fun b o v e=>?_⟩,st.hid,fun b v hb e nt=>?_⟩
    · rcases st.new b hb with z|z
      · exact .inl z
      · by_cases hba:b=a
        · subst hba; exact .inl (.inl (List.mem_of_getElem? hμ))
        · exact .inr fun o q=>z o (ne b o q hba)
    · have hba:b≠a:=fun z=>n (z▸.inl (List.mem_of_getElem? hμ))
      rw[upd_ne hba]
      exact st.keep b o (ne b o e hba) n nt
    · have hba:b≠a:=nf.ne e
      rw[upd_ne hba]
      exact st.kf b o v (ne b _ e hba)
    · have hba:b≠a:=fun z=>nh (by rw[st.hid]; subst z; exact hb)
      rw[upd_ne hba]
      exact st.hk b v hb (ne b v e hba) nt
  refine ⟨hf,w,whole,by simp[rs'.len],rs'.nd,rs'.dis,fun b hb=>?_,fun j o e=>?_,lZ rs'.tab (fun ps z=>by rw[hf] at z; cases z) fun c q z=>by rw[hf] at z; unfold LamX.CodeO at z; cases z⟩
  · obtain ⟨v,e,tt⟩:=rs'.hid b hb
    have hba:b≠a:=fun z=>by subst z; exact nh hb
    exact ⟨v,by rw[upd_ne hba]; exact e,tt⟩
  · by_cases hj:j=l
    · subst hj
      have hl:j<S'.length:=by
        have:=(List.getElem?_eq_some_iff.mp e).1; simpa using this
      rw[List.getElem?_set_self hl] at e
      cases e
      refine ⟨a,hμ',?_⟩
      cases t with
      | false=>
        obtain ⟨vs,ks,⟨q,hk⟩,rr⟩:=r
        rw[ha] at q
        cases q
        exact ⟨vs,ks,⟨upd_same,hk⟩,RepAll.step whole _ _ rr⟩
      | true=>
        obtain ⟨vs,ks,⟨q,hk⟩,rr⟩:=r
        rw[ha] at q
        cases q
        exact ⟨vs,ks,⟨upd_same,hk⟩,RepAll.step whole _ _ rr⟩
    · rw[List.getElem?_set_ne (Ne.symm hj)] at e
      obtain ⟨b,h1,h2⟩:=rs'.at_ j o e
      have na:b≠a:=fun z=>by
        subst z
        have e1:=List.getElem?_eq_some_iff.mp h1
        have e2:=List.getElem?_eq_some_iff.mp hμ'
        exact hj ((List.getElem_inj rs'.nd).mp (e1.2.trans e2.2.symm))
      exact ⟨b,h1,h2.stepW w fun w q=>by rw[upd_ne na]; exact q⟩
end
/-- the dict that ml tells is locked while mb runs -/
def eLock (ml mb:ME):ME:=fun env S=>match ml env S with
  | .ok (.loc l) _=>match S[l]? with
    | some (.dct t kvs)=>match mb env (S.set l (.fdc t kvs)) with
      | .ok d S'=>.ok d (S'.set l (.dct t kvs))
      | _=>.stuck
    | _=>.stuck
  | _=>.stuck
def qG (ml:ME) (mb:MS):MS:=fun env S=>match ml env S with
  | .ok (.loc l) _=>match S[l]? with
    | some (.dct t kvs)=>match mb env (S.set l (.fdc t kvs)) with
      | .next e S'=>.next e (S'.set l (.dct t kvs))
      | .brk e S'=>.brk e (S'.set l (.dct t kvs))
      | .cont e S'=>.cont e (S'.set l (.dct t kvs))
      | .ret d S'=>.ret d (S'.set l (.dct t kvs))
      | _=>.stuck
    | _=>.stuck
  | _=>.stuck
section
variable {X:Cx} {W:WX} {e:Expr} {st:Stmt} {ml mb:ME} {ms:MS}
theorem xb (h:PS X st (tS X W ms)):PS X st (tS X W (qG ml ms)):=fB (ps_lock h) fun D σ H ⟨env,S,μ,rl,o⟩=>by
  unfold qG at o
  split at o
  · rename_i l S1 _
    split at o
    · rename_i t kvs es
      obtain ⟨a,u,hμ,ha,mu,nf,nt,r⟩:=rl.sto.dict es
      refine ⟨a,u,ha,mu,fun od=>?_⟩
      obtain ⟨st1,rl1⟩:=xa rl es hμ ha nf r od
      refine ⟨env,_,μ,rl1,?_⟩
      cases hm:ms env (S.set l (.fdc t kvs)) with
      | next e S'=>
        rw[hm] at o
        intro μ' H' σ' st' re' rs'
        obtain ⟨h1,h2,h3,h4⟩:=jS rl.sto hμ ha nf nt r st' rs'
        exact ⟨h1,o μ' _ σ' h3 (re'.stpW h2) h4⟩
      | brk e S'=>
        rw[hm] at o
        intro μ' H' σ' st' re' rs'
        obtain ⟨h1,h2,h3,h4⟩:=jS rl.sto hμ ha nf nt r st' rs'
        exact ⟨h1,o μ' _ σ' h3 (re'.stpW h2) h4⟩
      | cont e S'=>
        rw[hm] at o
        intro μ' H' σ' st' re' rs'
        obtain ⟨h1,h2,h3,h4⟩:=jS rl.sto hμ ha nf nt r st' rs'
        exact ⟨h1,o μ' _ σ' h3 (re'.stpW h2) h4⟩
      | ret d S'=>
        rw[hm] at o
        intro μ' H' v st' rs' rb
        obtain ⟨h1,h2,h3,h4⟩:=jS rl.sto hμ ha nf nt r st' rs'
        exact ⟨h1,o μ' _ v h3 h4 (Rep.stpW h2 _ _ rb)⟩
      | exc _ _ _=>rw[hm] at o; exact o.elim
      | stuck=>rw[hm] at o; exact o.elim
    · exact o.elim
  · exact o.elim
end
end DL
namespace DL
open PySem PySem.Spec PyProof.Rows L2
theorem Res.bindS_assoc {α β γ:Type} (r:Res α) (f:α→Sto→Res β) (g:β→Sto→Res γ):(r.bindS f).bindS g=r.bindS fun a S=>(f a S).bindS g:=by
  cases r<;>rfl
/-- a walk,turn by turn -/
def fH (T:D→List D→Sto→Res (List D)):List D→List D→Sto→Res (List D)
  | [],acc,S=>.ok acc S
  | d::ds,acc,S=>(T d acc S).bindS fun acc S=>fH T ds acc S
def mB (T:D→List D→Sto→Res (List D)) (l:Nat):Nat→Nat→List D→Sto→Res (List D)
  | 0,_,_,_=>.stuck
  | n+1,i,acc,S=>match S[l]? with
    | some (.lst xs)=>match xs[i]? with
      | none=>.ok acc S
      | some d=>(T d acc S).bindS fun acc S=>mB T l n (i+1) acc S
    | _=>.stuck
def mC (T:D→List D→Sto→Res (List D)) (l:Nat):Nat→Nat→List D→Sto→Res (List D)
  | 0,_,_,_=>.stuck
  | n+1,i,acc,S=>match S[l]? with
    | some (.lst xs)=>match xs[i]? with
      | none=>.ok acc S
      | some d=>(T (.tup [.int (i:Nat),d]) acc S).bindS fun acc S=>mC T l n (i+1) acc S
    | _=>.stuck
def nY (T:D→List D→Sto→Res (List D)) (it:ItD) (acc:List D) (S:Sto):Res (List D):=match it with
  | .items ds=>fH T ds acc S
  | .live l=>mB T l (cy S l+1) 0 acc S
  | .liveE l=>mC T l (cy S l+1) 0 acc S
section
variable {X:Cx} {J:It} {it:ItD} {T:D→List D→Sto→Res (List D)} {G:V→Hp→(Hp→Prop)→Prop} {N:Hp→Prop} {W:WX} {σ:L2.St} {μ0 μ1:Mu} {H0 H1:Hp} {p:Addr} {Q:V→Hp→Prop}
theorem tZ {S1:Sto} {acc1:List D} {us1:List V} {f:List D→Sto→Res (List D)} (rd:WalkOk X.K X.mg μ1 H1 it J) (hp:p∈μ1.h) (hp1:H1 p=some (.lst us1)) (rs1:RelS X.K X.mg μ1 H1 S1) (ra1:RepAll X.K X.mg μ1 H1 acc1 us1)
    (o:Out X.K X.mg W σ μ0 H0 (RL X.K X.mg) Q ((nY T it acc1 S1).bindS f))
    (hN:∀μ H S acc us,StP p μ1 H1 μ H→RelS X.K X.mg μ H S→H p=some (.lst us)→RepAll X.K X.mg μ H acc us→Out X.K X.mg W σ μ0 H0 (RL X.K X.mg) Q (f acc S)→N H)
    (hG:∀(μ2:Mu) (H2:Hp) (S2:Sto) (d:D) (x:V) (acc:List D) (us:List V) (N2:Hp→Prop) (f2:List D→Sto→Res (List D)),StP p μ1 H1 μ2 H2→RelS X.K X.mg μ2 H2 S2→H2 p=some (.lst us)→RepAll X.K X.mg μ2 H2 acc us→Rep X.K X.mg μ2 H2 d x→Out X.K X.mg W σ μ0 H0 (RL X.K X.mg) Q ((T d acc S2).bindS f2)→
      (∀μ3 H3 S3 acc' us',StP p μ2 H2 μ3 H3→RelS X.K X.mg μ3 H3 S3→H3 p=some (.lst us')→RepAll X.K X.mg μ3 H3 acc' us'→Out X.K X.mg W σ μ0 H0 (RL X.K X.mg) Q (f2 acc' S3)→N2 H3)→G x H2 N2) :
    ∃Wk:Nat→Nat→Hp→Prop,(∃m,Wk 0 m H1)∧∀i m H,Wk i m H→(J.stop i H∧N H)∨(J.go i H∧∃Nx:Hp→Prop,(∀H',Nx H'→∃m',m'<m∧Wk (i+1) m' H')∧∀x H',J.yld i H x H'→G x H' Nx):=by
  have st0:StP p μ1 H1 μ1 H1:=.of .refl
  have npm:∀ {μ2:Mu} {H2:Hp},StP p μ1 H1 μ2 H2→p∈μ2.h:=fun sp=>by rw[sp.hid]; exact hp
  cases it with
  | items ds=>
    have rd:dM X.K X.mg μ1 H1 ds J:=rd
    refine ⟨fun i n H=>n+i=ds.length∧∃μ S acc us,StP p μ1 H1 μ H∧RelS X.K X.mg μ H S∧H p=some (.lst us)∧RepAll X.K X.mg μ H acc us∧Out X.K X.mg W σ μ0 H0 (RL X.K X.mg) Q ((fH T (ds.drop i) acc S).bindS f),
      ⟨ds.length,rfl,_,S1,_,_,st0,rs1,hp1,ra1,o⟩,?_⟩
    rintro i n H ⟨hn,μ,S,acc,us,sp,rs,hpp,ra,o⟩
    have sb:Stp μ1 H1 μ H:=sp.toStp
    by_cases hi:i<ds.length
    · have ed:ds.drop i=ds[i]::ds.drop (i+1):=List.drop_eq_getElem_cons hi
      rw[ed] at o
      unfold fH at o
      rw[Res.bindS_assoc] at o
      refine .inr ⟨rd.goes i μ H hi sb,fun H=>∃μ S acc us,StP p μ1 H1 μ H∧RelS X.K X.mg μ H S∧H p=some (.lst us)∧RepAll X.K X.mg μ H acc us∧Out X.K X.mg W σ μ0 H0 (RL X.K X.mg) Q ((fH T (ds.drop (i+1)) acc S).bindS f),fun H' w=>⟨n - 1,by omega,by omega,w⟩,fun x H' y=>?_⟩
      obtain ⟨sm,rx⟩:=rd.yields i _ μ H S x H' (List.getElem?_eq_getElem hi) sb rs y
      have sx:Step μ H μ H':=.of_sm sm
      have spx:=sp.trans (StP.of sx)
      exact hG μ H' S _ x acc us _ _ spx (rs.sm sm) (sm _ _ hpp) (RepAll.step sx _ _ ra) rx o fun μ3 H3 S3 acc' us' s3 rs3 hp3 ra3 o3=>⟨μ3,S3,acc',us',spx.trans s3,rs3,hp3,ra3,o3⟩
    · have e:i=ds.length:=by omega
      subst e
      rw[List.drop_length] at o
      exact .inl ⟨rd.stops μ H sb,hN μ H S acc us sp rs hpp ra o⟩
  | live l=>
    obtain ⟨a,ha,rfl⟩:=rd
    refine ⟨fun i n H=>∃μ S acc us,StP p μ1 H1 μ H∧RelS X.K X.mg μ H S∧H p=some (.lst us)∧RepAll X.K X.mg μ H acc us∧Out X.K X.mg W σ μ0 H0 (RL X.K X.mg) Q ((mB T l n i acc S).bindS f),
      ⟨_,_,S1,_,_,st0,rs1,hp1,ra1,o⟩,?_⟩
    rintro i n H ⟨μ,S,acc,us,sp,rs,hpp,ra,o⟩
    have sb:Stp μ1 H1 μ H:=sp.toStp
    cases n with
    | zero=>exact o.elim
    | succ n=>
      unfold mB at o
      cases es:S[l]? with
      | none=>rw[es] at o; exact o.elim
      | some ob=>
        cases ob with
        | lst xs=>
          simp only[es] at o
          obtain ⟨a',h1,vs',h2,h3⟩:=rs.at_ _ _ es
          rw[sb.get ha] at h1; cases h1
          cases hx:xs[i]? with
          | none=>
            simp only[hx] at o
            refine .inl ⟨⟨vs',.of h2,?_⟩,hN μ H S acc us sp rs hpp ra o⟩
            rw[←h3.length]
            exact List.getElem?_eq_none_iff.mp hx
          | some d=>
            simp only[hx] at o
            rw[Res.bindS_assoc] at o
            obtain ⟨v,hv,rv⟩:=h3.get hx
            refine .inr ⟨⟨vs',v,.of h2,hv⟩,fun H=>∃μ S acc us,StP p μ1 H1 μ H∧RelS X.K X.mg μ H S∧H p=some (.lst us)∧RepAll X.K X.mg μ H acc us∧Out X.K X.mg W σ μ0 H0 (RL X.K X.mg) Q ((mB T l n (i+1) acc S).bindS f),fun H' w=>⟨n,Nat.lt_succ_self n,w⟩,fun x H' y=>?_⟩
            obtain ⟨rfl,y⟩:=y
            have q:=y vs' (.of h2)
            rw[hv] at q; cases q
            exact hG μ _ S _ _ acc us _ _ sp rs hpp ra rv o fun μ3 H3 S3 acc' us' s3 rs3 hp3 ra3 o3=>⟨μ3,S3,acc',us',sp.trans s3,rs3,hp3,ra3,o3⟩
        | _=>simp only[es] at o; exact o.elim
  | liveE l=>
    obtain ⟨a,ha,rfl⟩:=rd
    refine ⟨fun i n H=>∃μ S acc us,StP p μ1 H1 μ H∧RelS X.K X.mg μ H S∧H p=some (.lst us)∧RepAll X.K X.mg μ H acc us∧Out X.K X.mg W σ μ0 H0 (RL X.K X.mg) Q ((mC T l n i acc S).bindS f),
      ⟨_,_,S1,_,_,st0,rs1,hp1,ra1,o⟩,?_⟩
    rintro i n H ⟨μ,S,acc,us,sp,rs,hpp,ra,o⟩
    have sb:Stp μ1 H1 μ H:=sp.toStp
    cases n with
    | zero=>exact o.elim
    | succ n=>
      unfold mC at o
      cases es:S[l]? with
      | none=>rw[es] at o; exact o.elim
      | some ob=>
        cases ob with
        | lst xs=>
          simp only[es] at o
          obtain ⟨a',h1,vs',h2,h3⟩:=rs.at_ _ _ es
          rw[sb.get ha] at h1; cases h1
          cases hx:xs[i]? with
          | none=>
            simp only[hx] at o
            refine .inl ⟨⟨vs',.of h2,?_⟩,hN μ H S acc us sp rs hpp ra o⟩
            rw[←h3.length]
            exact List.getElem?_eq_none_iff.mp hx
          | some d=>
            simp only[hx] at o
            rw[Res.bindS_assoc] at o
            obtain ⟨v,hv,rv⟩:=h3.get hx
            refine .inr ⟨⟨vs',v,.of h2,hv⟩,fun H=>∃μ S acc us,StP p μ1 H1 μ H∧RelS X.K X.mg μ H S∧H p=some (.lst us)∧RepAll X.K X.mg μ H acc us∧Out X.K X.mg W σ μ0 H0 (RL X.K X.mg) Q ((mC T l n (i+1) acc S).bindS f),fun H' w=>⟨n,Nat.lt_succ_self n,w⟩,fun x H' y=>?_⟩
            obtain ⟨Tz,z,rfl,hT,rfl,y⟩:=y
            have q:=y vs' (.of h2)
            rw[hv] at q; cases q
            have sm:Sm H (upd H Tz (.tup [.int (i:Int),v])):=.upd hT
            have sx:Step μ H μ (upd H Tz (.tup [.int (i:Int),v])):=.of_sm sm
            have rx:Rep X.K X.mg μ (upd H Tz (.tup [.int (i:Int),v])) (.tup [.int (i:Nat),d]) (.ref Tz):=bG rs hT (.cons (bB _) (.cons rv .nil))
            have spx:=sp.trans (StP.of sx)
            exact hG μ _ S _ _ acc us _ _ spx (rs.sm sm) (sm _ _ hpp) (RepAll.step sx _ _ ra) rx o fun μ3 H3 S3 acc' us' s3 rs3 hp3 ra3 o3=>⟨μ3,S3,acc',us',spx.trans s3,rs3,hp3,ra3,o3⟩
        | _=>simp only[es] at o; exact o.elim
end
/-- one turn of the first clause -/
def f7 (g:MG) (tc:MT) (mi1:MI) (g1:MG) (tc1:MT) (m:ME) (vs1:List Nat) (w:En) (d:D) (acc:List D) (S:Sto):Res (List D):=match g d w S with
  | none=>.stuck
  | some p=>(tc p.1 p.2).bindS fun c S2=>if c=true then (mi1 p.1 S2).bindS fun it S3=>nY (fC g1 tc1 m (ao p.1 vs1)) it acc S3 else .ok acc S2
def oa (mi:MI) (g:MG) (tc:MT) (mi1:MI) (g1:MG) (tc1:MT) (m:ME) (vs vs1:List Nat):MA:=fun env S=>(mi env S).bind fun it S=>nY (f7 g tc mi1 g1 tc1 m vs1 (ao env vs)) it [] S
def mD (mi:MI) (g:MG) (tc:MT) (mi1:MI) (g1:MG) (tc1:MT) (m:ME) (vs vs1:List Nat):ME:=fun env S=>(oa mi g tc mi1 g1 tc1 m vs vs1 env S).bind fun ds S=>.ok (.lst ds) S
theorem Res.bindS_noexc {α β:Type} {r:Res α} {f:α→Sto→Res β} (h:∀a S e S',f a S≠.exc e S'):∀e S,r.bindS f≠.exc e S:=fun e S=>by
  cases r with
  | ok a S1=>exact h a S1 e S
  | exc _ _=>exact fun z=>nomatch z
  | stuck=>exact fun z=>nomatch z
theorem ki {T:D→List D→Sto→Res (List D)}:∀ds acc S e S',fH T ds acc S≠.exc e S'
  | [],_,_,_,_=>fun z=>nomatch z
  | d::ds,acc,S,e,S'=>Res.bindS_noexc (fun a S e S'=>ki ds a S e S') e S'
theorem kj {T:D→List D→Sto→Res (List D)} {l:Nat}:∀n i acc S e S',mB T l n i acc S≠.exc e S'
  | 0,_,_,_,_,_=>fun z=>nomatch z
  | n+1,i,acc,S,e,S'=>by
    unfold mB
    split
    · split
      · exact fun z=>nomatch z
      · exact Res.bindS_noexc (fun a S e S'=>kj n _ a S e S') e S'
    · exact fun z=>nomatch z
theorem km {T:D→List D→Sto→Res (List D)} {l:Nat}:∀n i acc S e S',mC T l n i acc S≠.exc e S'
  | 0,_,_,_,_,_=>fun z=>nomatch z
  | n+1,i,acc,S,e,S'=>by
    unfold mC
    split
    · split
      · exact fun z=>nomatch z
      · exact Res.bindS_noexc (fun a S e S'=>km n _ a S e S') e S'
    · exact fun z=>nomatch z
theorem qH {T:D→List D→Sto→Res (List D)} {it:ItD} {acc:List D} {S:Sto} (e:_) (S':Sto):nY T it acc S≠.exc e S':=by
  cases it with
  | items ds=>exact ki ds acc S e S'
  | live l=>exact kj _ _ acc S e S'
  | liveE l=>exact km _ _ acc S e S'
theorem WalkOk.stp {K:PySem.W.Frag} {mg:Str→Option Value} {μ μ':Mu} {H H':Hp} {it:ItD} {J:It} (s:Stp μ H μ' H') (h:WalkOk K mg μ H it J):WalkOk K mg μ' H' it J:=by
  cases it with
  | items ds=>
    have h:dM K mg μ H ds J:=h
    exact (⟨fun i μ2 H2 hi t=>h.goes i μ2 H2 hi (s.trans t),fun μ2 H2 t=>h.stops μ2 H2 (s.trans t),fun i d μ2 H2 S x H3 hd t rs y=>h.yields i d μ2 H2 S x H3 hd (s.trans t) rs y⟩:dM K mg μ' H' ds J)
  | live l=>
    obtain ⟨a,ha,e⟩:=h
    exact ⟨a,s.get ha,e⟩
  | liveE l=>
    obtain ⟨a,ha,e⟩:=h
    exact ⟨a,s.get ha,e⟩
section
variable {X:Cx} {e tg iter tg1 iter1 elt:Expr} {pos:Pos} {g g1:MG} {m:ME} {mi mi1:MI} {tc tc1:MT} {vs vs1:List Nat}
/-- what the second loop asks -/
def Loop2 (X:Cx) (g1:MG) (tc1:MT) (m:ME) (vs1:List Nat) (p:Addr) (σ2:L2.St) (J1:It) (H4:Hp) (N:Hp→Prop):Prop:=
  ∃W1:Nat→Nat→Hp→Prop,(∃m,W1 0 m H4)∧∀j k H,W1 j k H→
      (J1.stop j H∧N H)∨(J1.go j H∧∃Nx1:Hp→Prop,(∀H',Nx1 H'→∃k',k'<k∧W1 (j+1) k' H')∧∀x H',J1.yld j H x H'→tGc X vs1 g1 x (L2.wipe σ2 vs1) H' fun σ3 H5=>L2.wipe σ3 vs1=L2.wipe σ2 vs1∧tT X W0 tc1 σ3 H5 fun b H6=>
        if b=true then tE X W0 m σ3 H6 fun y H7=>∃acc,H7 p=some (.lst acc)∧acc.length<sizeLine∧Nx1 (upd H7 p (.lst (acc++[y]))) else Nx1 H6)
theorem vi {W:WX} {σ:L2.St} {w:En} {p:Addr} {Q:V→Hp→Prop} {μ1 μ2:Mu} {H1 H2:Hp} {S2:Sto} {d:D} {x:V} {acc:List D} {us:List V} {N:Hp→Prop} {f:List D→Sto→Res (List D)}
    (re:RelE X.K X.mg μ2 H2 w (L2.wipe σ vs)) (rs:RelS X.K X.mg μ2 H2 S2) (hp:H2 p=some (.lst us)) (np:p∈μ2.h) (ra:RepAll X.K X.mg μ2 H2 acc us) (rx:Rep X.K X.mg μ2 H2 d x)
    (o:Out X.K X.mg W σ μ1 H1 (RL X.K X.mg) Q ((f7 g tc mi1 g1 tc1 m vs1 w d acc S2).bindS f))
    (hN:∀μ3 H3 S3 acc' us',StP p μ2 H2 μ3 H3→RelS X.K X.mg μ3 H3 S3→H3 p=some (.lst us')→RepAll X.K X.mg μ3 H3 acc' us'→Out X.K X.mg W σ μ1 H1 (RL X.K X.mg) Q (f acc' S3)→N H3) :
    tGc X vs g x (L2.wipe σ vs) H2 fun σ2 H3=>L2.wipe σ2 vs=L2.wipe σ vs∧tT X W0 tc σ2 H3 fun b H4=>if b=true then tI X W0 mi1 σ2 H4 fun J1 H5=>Loop2 X g1 tc1 m vs1 p σ2 J1 H5 N else N H4:=by
  refine ⟨w,S2,μ2,d,⟨re,rs⟩,rx,?_⟩
  unfold f7 at o
  cases hg:g d w S2 with
  | none=>simp only[hg,Res.bindS] at o; exact o.elim
  | some q=>
    obtain ⟨e,Se⟩:=q
    simp only[hg] at o
    intro μ3 H3 σ3 st3 re3 rs3 hw
    refine ⟨hw.trans (e7 vs vs σ fun i hi=>hi),e,Se,μ3,⟨re3,rs3⟩,?_⟩
    have hp3:H3 p=some (.lst us):=st3.hk _ _ np hp
    have np3:p∈μ3.h:=by rw[st3.hid]; exact np
    have ra3:=RepAll.step st3 _ _ ra
    cases htc:tc e Se with
    | exc a b=>simp only[htc,Res.bindS] at o; exact o.elim
    | stuck=>simp only[htc,Res.bindS] at o; exact o.elim
    | ok c S4=>
      simp only[htc,Res.bindS] at o
      intro μ4 H4 b st4 rs4 hb
      subst hb
      have hp4:H4 p=some (.lst us):=st4.hk _ _ np3 hp3
      have np4:p∈μ4.h:=by rw[st4.hid]; exact np3
      have ra4:=RepAll.step st4 _ _ ra3
      cases b with
      | false=>
        simp only[Bool.false_eq_true,if_false] at o ⊢
        exact hN μ4 H4 S4 acc us (.of (st3.trans st4)) rs4 hp4 ra4 o
      | true=>
        simp only[if_true] at o ⊢
        refine ⟨e,S4,μ4,⟨re3.step st4,rs4⟩,?_⟩
        cases hm:mi1 e S4 with
        | exc a b=>simp only[hm,Res.bindS] at o; exact o.elim
        | stuck=>simp only[hm,Res.bindS] at o; exact o.elim
        | ok it S5=>
          simp only[hm] at o
          intro μ5 H5 J1 st5 rs5 rd5
          have hp5:H5 p=some (.lst us):=st5.hk _ _ np4 hp4
          have np5:p∈μ5.h:=by rw[st5.hid]; exact np4
          have ra5:=RepAll.step st5 _ _ ra4
          have re5:RelE X.K X.mg μ5 H5 (ao e vs1) (L2.wipe σ3 vs1):=((re3.step st4).step st5).wipe vs1
          have s05:StP p μ2 H2 μ5 H5:=.of ((st3.trans st4).trans st5)
          refine tZ (G:=fun x H N=>tGc X vs1 g1 x (L2.wipe σ3 vs1) H fun σ4 H5=>L2.wipe σ4 vs1=L2.wipe σ3 vs1∧tT X W0 tc1 σ4 H5 fun b H6=>if b=true then tE X W0 m σ4 H6 fun y H7=>∃acc,H7 p=some (.lst acc)∧acc.length<sizeLine∧N (upd H7 p (.lst (acc++[y]))) else N H6) (N:=N) (f:=f) rd5 np5 hp5 rs5 ra5 o (fun μ H S acc us sp rs hpp ra o=>hN μ H S acc us (s05.trans sp) rs hpp ra o) fun μ6 H6 S6 d6 x6 acc6 us6 N6 f6 sp rs6 hp6 ra6 rx6 o6 hN6=>?_
          have np6:p∈μ6.h:=by rw[sp.hid]; exact np5
          exact lM (re5.stp sp.toStp) rs6 hp6 np6 ra6 rx6 o6 hN6
theorem xc {own:List (Str × Nat)} {σ:L2.St} {H:Hp} {Q:VK} {W:WX} (h:tM X (RL X.K X.mg) W (oa mi g tc mi1 g1 tc1 m (own.map (·.2)) vs1) σ H Q) :
    tLc2 (tI X W mi) (tGc X (own.map (·.2)) g) (tT X W0 tc) (tI X W0 mi1) (tGc X vs1 g1) (tT X W0 tc1) (tE X W0 m) (own.map (·.2)) vs1 σ H Q:=by
  obtain ⟨env,S,μ,rl,o⟩:=h
  generalize own.map (·.2)=vs at *
  refine ⟨env,S,μ,rl,(Out.bind o).mono fun J H1 ⟨μ1,S1,it,st,rs,rd,o1⟩ p hp=>?_⟩
  have rw1:RelE X.K X.mg μ1 H1 (ao env vs) (L2.wipe σ vs):=(rl.env.step st).wipe vs
  have sh:Stp μ1 H1 (μ1.hide p) (upd H1 p (.lst [])):=.new_hid hp
  have np0:p∈(μ1.hide p).h:=List.mem_cons_self
  have rd0:WalkOk X.K X.mg (μ1.hide p) (upd H1 p (.lst [])) it J:=WalkOk.stp sh rd
  have o1:Out X.K X.mg W σ μ1 H1 (RL X.K X.mg) Q ((nY (f7 g tc mi1 g1 tc1 m vs1 (ao env vs)) it [] S1).bindS fun acc S=>.ok acc S):=by
    have e:∀r:Res (List D),Out X.K X.mg W σ μ1 H1 (RL X.K X.mg) Q r→(∀e S,r≠.exc e S)→Out X.K X.mg W σ μ1 H1 (RL X.K X.mg) Q (r.bindS fun acc S=>.ok acc S):=fun r o n=>by
      cases r with
      | ok a S=>exact o
      | exc e S=>exact (n e S rfl).elim
      | stuck=>exact o
    exact e _ o1 fun e S=>qH e S
  refine tZ (T:=f7 g tc mi1 g1 tc1 m vs1 (ao env vs)) (N:=fun H=>Q (.ref p) H) (f:=fun acc S=>.ok acc S) rd0 np0 upd_same (rs.hide hp) .nil o1 (fun μ2 H2 S2 acc us sp rs2 hp2 ra o=>?_) fun μ6 H6 S6 d6 x6 acc6 us6 N6 f6 sp rs6 hp6 ra6 rx6 o6 hN6=>vi ((rw1.stp sh).stp sp.toStp) rs6 hp6 (by rw[sp.hid]; exact np0) ra6 rx6 o6 hN6
  have sub:∀a∈μ1.h,a∈μ2.h:=fun a ha=>by rw[sp.hid]; exact List.mem_cons_of_mem _ ha
  have su:Stp μ2 H2 ⟨μ2.l,μ1.h⟩ H2:=.unhide sub
  have np:p∉(⟨μ2.l,μ1.h⟩:Mu):=fun z=>z.elim (fun z=>rs2.dis p z (by rw[sp.hid]; exact List.mem_cons_self)) (rs.notinH hp)
  exact o ⟨μ2.l,μ1.h⟩ H2 (.ref p) ⟨(sh.trans sp.toStp).trans su,rfl,fun a u ha e nt=>sp.hk a u (ne_of_none e hp) (List.mem_cons_of_mem _ ha) (by rw[upd_ne (ne_of_none e hp)]; exact e) nt⟩ (rs2.unhide sub)
      ⟨p,us,rfl,hp2,np,RepAll.stp su _ _ ra⟩
theorem rq {σ:L2.St} {H:Hp} {Q:VK} {W:WX} (h:tE X W (mD mi g tc mi1 g1 tc1 m vs vs1) σ H Q):tM X (RL X.K X.mg) W (oa mi g tc mi1 g1 tc1 m vs vs1) σ H Q:=by
  obtain ⟨env,S,μ,rl,o⟩:=h
  refine ⟨env,S,μ,rl,(Out.bind (R:=RL X.K X.mg) o).mono fun v H1 ⟨μ1,S1,ds,st,rs,r,o1⟩=>o1 μ1 H1 v .refl rs (vM r)⟩
section
variable {scope:Scope} {own:List (Str × Nat)} {W:WX} {ifs ifs1:List Expr}
theorem qI {i:Nat} {y:Str} {py spos:Pos} (hc:X.calm=true) (hN:X.N.Nodup) (hy:X.N[i]?=some y) (hyl:X.env.scope.names.lookup y=some .local)
    (hsw:swapsWith (.ListComp elt [⟨tg,iter,ifs,0⟩,⟨tg1,iter1,ifs1,0⟩] scope pos) (some (.Name y py)) spos.line X.env=pure true) (hi:PI X tg iter (tI X W mi)) (ok:BlkOk X.N X.env.scope scope own) (hv:∀i∈vs1,i∈own.map (·.2))
    (hg:∀(s:Shared) (H:Hp) (C:Addr) (cl:List (Str × Addr)) (fp:List Addr),PG (X.blk s H scope (compEnvC scope cl C X.env) fp) tg (tGc (X.blk s H scope (compEnvC scope cl C X.env) fp) (own.map (·.2)) g))
    (ht:∀(s:Shared) (H:Hp) (C:Addr) (cl:List (Str × Addr)) (fp:List Addr),oW (X.blk s H scope (compEnvC scope cl C X.env) fp) ifs tc)
    (hi1:∀(s:Shared) (H:Hp) (C:Addr) (cl:List (Str × Addr)) (fp:List Addr),PI (X.blk s H scope (compEnvC scope cl C X.env) fp) tg1 iter1 (tI (X.blk s H scope (compEnvC scope cl C X.env) fp) W0 mi1))
    (hg1:∀(s:Shared) (H:Hp) (C:Addr) (cl:List (Str × Addr)) (fp:List Addr),PG (X.blk s H scope (compEnvC scope cl C X.env) fp) tg1 (tGc (X.blk s H scope (compEnvC scope cl C X.env) fp) vs1 g1))
    (ht1:∀(s:Shared) (H:Hp) (C:Addr) (cl:List (Str × Addr)) (fp:List Addr),oW (X.blk s H scope (compEnvC scope cl C X.env) fp) ifs1 tc1)
    (he:∀(s:Shared) (H:Hp) (C:Addr) (cl:List (Str × Addr)) (fp:List Addr),PE (X.blk s H scope (compEnvC scope cl C X.env) fp) elt (tE (X.blk s H scope (compEnvC scope cl C X.env) fp) W0 m)) (hs:∀x,foldedSetIterable iter X.env x=pure x:=by intro _; rfl) (hs1:∀env x,foldedSetIterable iter1 env x=pure x:=by intro _ _; rfl) :
    PS X (.Assign [.Name y py] (.ListComp elt [⟨tg,iter,ifs,0⟩,⟨tg1,iter1,ifs1,0⟩] scope pos) spos) (tS X W (bw i (mD mi g tc mi1 g1 tc1 m (own.map (·.2)) vs1))):=
  fB (ps_setLc2 (g:=tGc X (own.map Prod.snd) g) (tt:=tT X W0 tc) (te:=tE X W0 m) (wi1:=tI X W0 mi1) (g1:=tGc X vs1 g1) (tt1:=tT X W0 tc1) hc hN hy hyl hsw hi ok hv hg ht hi1 hg1 ht1 he hs hs1) fun D σ H ⟨env,S,μ,rl,o⟩=>xc (rq ⟨env,S,μ,rl,(OutS.rs rl.env o).mono fun x H1 ⟨μ1,S1,d,st,rs,r,o1⟩=>o1 μ1 H1 _ .refl ((rl.env.step st).set r) rs⟩)
end
end
end DL
namespace DL
open PySem PySem.Spec PyProof.Rows L2 LamX
def isD (S:Sto) (d:D):Bool:=match d with
  | .loc l=>(c4 S[l]?).isSome
  | _=>false
def vj (S:Sto) (d k z:D):Option D:=match d with
  | .loc l=>match c4 S[l]? with
    | some (t,kvs)=>if cB t k=true then some ((cz t kvs k).getD z) else none
    | none=>none
  | _=>none
def eGet (md mk mz:ME):ME:=fun env S=>(md env S).bind fun d S=>if isD S d=true then (mk env S).bind fun k S=>(mz env S).bind fun z S=>ofO S (vj S d k z) else .stuck
def eSetd (md mk mz:ME):ME:=fun env S=>(md env S).bind fun d S=>if isD S d=true then (mk env S).bind fun k S=>(mz env S).bind fun z S=>match d with
  | .loc l=>match S[l]? with
    | some (.dct false kvs)=>if cB false k=true∧kvs.length<1000000 then (match cz false kvs k with
      | some v=>.ok v S
      | none=>.ok z (S.set l (.dct false (gR false kvs k z)))) else .stuck
    | _=>.stuck
  | _=>.stuck else .stuck
end DL
namespace DL
open PySem PySem.Spec PyProof.Rows L2 LamX
mutual
def noL:PyData→Bool
  | .list _=>false
  | .dict _=>false
  | .tuple xs=>noLs xs
  | _=>true
def noLs:List PyData→Bool
  | []=>true
  | x::xs=>noL x&&noLs xs
end
mutual
theorem nZ {h:Heap}:∀ {v:Value} {d:PyData} {as:List Addr},Reads h v d as→noL d=true→as=[]
  | _,_,_,.none,_=>rfl
  | _,_,_,.bool _,_=>rfl
  | _,_,_,.int _ _,_=>rfl
  | _,_,_,.str _ _,_=>rfl
  | _,_,_,.list _ _ _ _,n=>by unfold noL at n; cases n
  | _,_,_,.tuple _ _ _ r,n=>by
    unfold noL at n
    exact readsAll_nil r n
  | _,_,_,.dict _ _ _ _ _,n=>by unfold noL at n; cases n
theorem readsAll_nil {h:Heap}:∀ {v:List Value} {d:List PyData} {as:List Addr},ReadsAll h v d as→noLs d=true→as=[]
  | _,_,_,.nil,_=>rfl
  | _,_,_,.cons r rs,n=>by
    unfold noLs at n
    rw[Bool.and_eq_true] at n
    rw[nZ r n.1,readsAll_nil rs n.2]; rfl
end
def vk (n:Nat) (d:D) (m:MF) (r:MA):ME:=fun env S=>(r env S).bind fun ds S=>chk n m (ds++[d]) S
def vm (n k:Nat) (m:MF) (r rk:MA):ME:=fun env S=>(r env S).bind fun ds S=>(rk env S).bind fun zs S=>if ds.length=k then chk n m (ds++zs) S else .stuck
def sPar3 (i j l:Nat) (r:MA):MS:=fun env S=>(r env S).rs env fun ds S=>match ds with
  | [a,b,c]=>.next (((env.set i (some a)).set j (some b)).set l (some c)) S
  | _=>.stuck
/-- xs+ys,a list that is changed later -/
def eCatM (ma mb:ME):ME:=fun env S=>(ma env S).bind fun a S=>(mb env S).bind fun b S=>match view0 S a,view0 S b with
  | .lst xs,.lst ys=>if xs.length+ys.length≤1000000 then .ok (.loc S.length) (S++[.lst (xs++ys)]) else .stuck
  | _,_=>.stuck
end DL
namespace DL
open PySem PySem.Spec PyProof.Rows L2 LamX
end DL
namespace DL
open PySem PySem.Spec PyProof.Rows L2 LamX
end DL
namespace DL
open PySem PySem.Spec PyProof.Rows L2 LamX
end DL
namespace DL
open PySem PySem.Spec PyProof.Rows L2 LamX
end DL
namespace DL
open PySem PySem.Spec PyProof.Rows L2 LamX
end DL
namespace DL
open PySem PySem.Spec PyProof.Rows L2 LamX
end DL
namespace DL
open PySem PySem.Spec PyProof.Rows L2 LamX
end DL
namespace DL
open PySem PySem.Spec PyProof.Rows L2 LamX
end DL
namespace DL
open PySem PySem.Spec PyProof.Rows L2
section
variable {X:Cx} {W:WX}
def dRep:D→D→Option D
  | .lst xs,.int k=>if 0≤k∧k≤1000∧xs.length*k.toNat≤1000000 then some (.lst (List.replicate k.toNat xs).flatten) else none
  | _,_=>none
@[simp] theorem dRep_at (xs:List D) (k:Int):dRep (.lst xs) (.int k)=if 0≤k∧k≤1000∧xs.length*k.toNat≤1000000 then some (.lst (List.replicate k.toNat xs).flatten) else none:=rfl
end
end DL
namespace DL
open PySem PySem.Spec PyProof.Rows L2
end DL
namespace DL
open PySem PySem.Spec PyProof.Rows L2
end DL
namespace DL
open PySem PySem.Spec PyProof.Rows L2
/-- one turn: the items made so far,behind it; an exception goes on -/
def tj (g:MG) (m:ME) (w:En) (d:D) (acc:List D) (S:Sto):Res (List D):=match g d w S with
  | none=>.stuck
  | some p=>(m p.1 p.2).bind fun v S3=>if acc.length<1000000 then .ok (acc++[v]) S3 else .stuck
def j6 (g:MG) (m:ME) (w:En):List D→List D→Sto→Res (List D)
  | [],acc,S=>.ok acc S
  | d::ds,acc,S=>(tj g m w d acc S).bind fun acc S=>j6 g m w ds acc S
def r6 (g:MG) (m:ME) (w:En) (l:Nat):Nat→Nat→List D→Sto→Res (List D)
  | 0,_,_,_=>.stuck
  | n+1,i,acc,S=>match S[l]? with
    | some (.lst xs)=>match xs[i]? with
      | none=>.ok acc S
      | some d=>(tj g m w d acc S).bind fun acc S=>r6 g m w l n (i+1) acc S
    | _=>.stuck
def r8 (mi:MI) (g:MG) (m:ME) (vs:List Nat):MA:=fun env S=>(mi env S).bind fun it S=>match it with
  | .items ds=>j6 g m (ao env vs) ds [] S
  | .live l=>r6 g m (ao env vs) l (cy S l+1) 0 [] S
  | .liveE _=>.stuck
def eCompX (mi:MI) (g:MG) (m:ME) (vs:List Nat):ME:=fun env S=>(r8 mi g m vs env S).bind fun ds S=>.ok (.lst ds) S
end DL
namespace DL
open PySem PySem.Spec PyProof.Rows L2
/-- at A.m stands v -/
structure ClV (K:PySem.W.Frag) (A:Addr) (m:Str) (v:Value):Prop where
  rd:PySem.W.readsIn K A (.type "type")=true
  ga:PySem.W.specialIn K (.ref A) "__getattribute__"=some (some (.builtin "type.__getattribute__"))
  up:PySem.W.findCls K (.ref A) (.type "type") m=some (.val v)
theorem xf {K:PySem.W.Frag} {A:Addr} {m:Str} {v:Value} (h:clVB K A m v=true):ClV K A m v:=by
  unfold clVB at h
  simp only[Bool.and_eq_true] at h
  obtain ⟨⟨h1,h2⟩,h3⟩:=h
  refine ⟨h1,He.eqO_ok h2,?_⟩
  split at h3
  · rename_i u e
    rw[of_decide_eq_true h3] at e
    exact e
  · cases h3
theorem xg {K:PySem.W.Frag} {C:Addr} (h:oexB K C=true):OexC K C:=by
  unfold oexB at h
  simp only[Bool.and_eq_true,decide_eq_true_eq] at h
  obtain ⟨⟨⟨⟨q,h2⟩,h3⟩,h4⟩,h5⟩:=h
  refine ⟨?_,He.eqO_ok h2,h3,h4,h5⟩
  split at q
  · rename_i dd cd sl ho
    split at q
    · rename_i C' bm k0 k1 k2 k3 n k5 hm hs
      simp only[Bool.and_eq_true,beq_iff_eq,Bool.not_eq_true'] at q
      obtain ⟨⟨⟨⟨rfl,rfl⟩,hdel⟩,hdi⟩,hr⟩:=q
      obtain ⟨nm,bs,mro,ns,qn,hd,sn,sub,ab,col,del⟩:=cd
      dsimp only at hm hdel hdi
      subst hm hdel hdi
      have hsl:sl=#[k0,k1,k2,k3,some (.builtin "ValueError.__new__"),k5]:=by
        obtain ⟨l⟩:=sl
        simp only at hs
        rw[hs]
      subst hsl
      exact ⟨nm,qn,ns,bs,bm,sn,sub,ab,col,dd,k0,k1,k2,k3,k5,ho,hr⟩
    · cases q
  · cases q
/-- an own error with fields: its class at C,its __init__ at fI,the class above at A -/
structure ExcI (K:PySem.W.Frag) (C fI A:Addr) (ns:List Str):Prop where
  ox:OexC K C
  ini:PySem.W.findIn K (.ref C) "__init__"=some (some (.ref fI))
  ty:PySem.W.typeIn K (.ref fI)=some (.type "function")
  fl:∀n∈ns,PySem.W.findIn K (.ref C) n=some none
  up:ClV K A "__init__" (.builtin "ValueError.__init__")
theorem vo {K:PySem.W.Frag} {C fI A:Addr} {ns:List Str} (h:u6 K C fI A ns=true):ExcI K C fI A ns:=by
  unfold u6 at h
  simp only[Bool.and_eq_true,decide_eq_true_eq,List.all_eq_true] at h
  obtain ⟨⟨⟨⟨h1,h2⟩,h3⟩,h4⟩,h5⟩:=h
  exact ⟨xg h1,He.eqO_ok h2,h3,fun n hn=>He.eqO_ok (h4 n hn),xf h5⟩
/-- the call of y.m is evaluated as a method's call -/
def vp (y nm:Str) (p1 p2 pos:Pos) (es:List Expr) (env:Env):Prop:=∃pl:Sem Bool,eval (.Call (.Attribute (.Name y p1) nm p2) es [] pos) env=(do
      let ov ←eval (.Name y p1) env
      standAt p2.atName
      let (f,first) ←holding [ov] (getMethod ov nm pl)
      callWith pos f first (backTo pos (starEach es env)) (backToKw pos (keywordEach [] env)))
section
variable {X:Cx} {e:Expr} {es:List Expr} {ta:TA} {y:Str} {A:Addr} {p1 p2 pos:Pos}
/-- A.__init__(self,..),A without an own one -/
theorem uV (hg:Gl X y) (hm:X.mg y=some (.ref A)) (V:ClV X.K A "__init__" (.builtin "ValueError.__init__")) (ha:PA X (e::es) ta) (hdb:(y == ("__debug__":Str))=false:=by decide)
    (hc:vp y "__init__" p1 p2 pos (e::es) X.env)
    (he:starEach (e::es) X.env=(false,eval e X.env)::starEach es X.env:=by rfl) (hpl:(backTo pos (starEach es X.env)).any (·.1)=false:=by rfl) :
    PE X (.Call (.Attribute (.Name y p1) "__init__" p2) (e::es) [] pos) (tVeI X.K ta):=by
  obtain ⟨pl,hc⟩:=hc
  refine ⟨fun pins s σ H Q I h=>?_⟩
  refine PySem.W.methodCall_KW (ld_glob I hg hm ?_ hdb) hc
  refine PySem.W.method_cls I.kIn V.ga (PySem.W.cls_value I.kIn V.rd V.up rfl ?_)
  show wpAny _ _ (callWith pos (Value.builtin "ValueError.__init__") [] (backTo pos (starEach (e::es) X.env)) []) _ _ _
  refine PyProof.Rows.callWith_method1 (thn (ha.run pos pins _ σ H _ (I.tok _) h) fun us s1 ⟨vs,H1,I1,r1,a,C,ws,ev,hl,T,ea,q⟩=>?_) he hpl
  subst ev
  cases r1 with
  | @cons _ u0 _ ur ra rw'=>
    obtain rfl:u0=Value.ref a:=ra
    have hlen:ur.length≤sizeLine:=by
      rw[←Paired.length rw',sizeLine_eq]
      omega
    exact oinit_ok T I1 ea hlen fun s' J=>⟨.non,H1,J,rfl,q⟩
end
/-- what such an __init__ keeps: the fields are these -/
def spI (C:Addr) (ns:List Str):Sp:=fun vs H Q E=>∃(a:Addr) (ys:List V),vs=.ref a::ys∧ys.length=ns.length∧H a=some (exo a C none)∧
  ∀dx H',H dx=none→dx≠a→H' a=some (exo a C (some dx))→H' dx=some (exd dx (ns.zip ys).reverse)→(∀b,b≠a→b≠dx→H' b=H b)→Q .non H'
section
variable {P:Program} {w:World} {K:PySem.W.Frag} {mg:Str→Option Value} {base:Heap} {qual y m f1 f2:Str} {params:Arguments} {body:List Stmt} {scope:Scope} {C fI A:Addr} {fd:FuncData} {k j:Nat}
  {p1 p2 p3 p4 p5 p6 q1 q2 q3 q4 r1 r2 r3 r4:Pos}
theorem jT {N ps:List Str} (S:FnScope N ps scope) {x:Str} (h:x∈ps):Vis scope x:=(S.par x h).elim .inl fun z=>.inr (.inl z)
theorem vq (T:ExcI K C fI A [f1,f2]) (F:FunD K "__init__" qual params body scope [] [] fI fd) (S:FnScope ["self",f1,f2] ["self",f1,f2] scope) (hA:mg y=some (.ref A)) (hg:scope.names.lookup y=some .globalImplicit)
    (hb:body=[.Expr (.Call (.Attribute (.Name y p1) "__init__" p2) [.Name "self" p3,.Constant (.str m) j p4] [] p5) p6,.Assign [.Attribute (.Name "self" q1) f1 q2] (.Name f1 q3) q4,.Assign [.Attribute (.Name "self" r1) f2 r2] (.Name f2 r3) r4])
    (hce:∀(n:Nat) (cdv:Value),vp y "__init__" p1 p2 p5 [.Name "self" p3,.Constant (.str m) j p4] (envOfC qual scope n fI cdv))
    (hdb:(y == ("__debug__":Str))=false:=by decide) (hd1:(f1 == ("__debug__":Str))=false:=by decide) (hc1:(f1 == ("__classdict__":Str))=false:=by decide) (hd2:(f2 == ("__debug__":Str))=false:=by decide) (hc2:(f2 == ("__classdict__":Str))=false:=by decide) :
    FnOk P w K mg base C8.CX0 (k+1) fI fd ["self",f1,f2] (spI C [f1,f2]):=by
  subst hb
  refine FunD.ok F S (fun vs H Q E ⟨a,ys,e,hl,_⟩=>by rw[e]; simp[hl]) fun cdv A0 outer s H vs Q E hr ⟨a,ys,e,hl,ha,hq⟩=>?_
  subst e
  match ys,hl with
  | [v1,v2],_=>
    refine ⟨_,pss_cons (ps_expr (uV (A:=A) hg hA T.up (pa_cons (pe_var (i:=0) rfl (jT S (by simp))) (pa_cons pe_str pa_nil)) hdb (hce _ _))) (pss_cons (ps_ost (pe_var (i:=0) rfl (jT S (by simp))) (pe_var (i:=1) rfl (jT S (by simp)) hd1 hc1))
      (pss_one (ps_ost (pe_var (i:=0) rfl (jT S (by simp))) (pe_var (i:=2) rfl (jT S (by simp)) hd2 hc2)))),?_⟩
    refine ⟨.ref a,rfl,a,C,[.str m],rfl,by simp,T.ox,ha,?_⟩
    refine ⟨v1,rfl,.ref a,rfl,a,C,rfl,T.ox,T.fl f1 (by simp),.inl ⟨ha,fun dx hd hne=>?_⟩⟩
    refine ⟨v2,rfl,.ref a,rfl,a,C,rfl,T.ox,T.fl f2 (by simp),.inr ⟨dx,[(f1,v1)],upd_same,by rw[upd_ne hne,upd_same],by simp,?_⟩⟩
    refine hq dx _ hd hne ?_ upd_same fun b h1 h2=>?_
    · rw[upd_ne (Ne.symm hne),upd_same]
    · rw[upd_ne h2,upd_ne h1,upd_ne h2]
end
def eh (C:Str) (ns:List Str) (r:MA):MS:=fun env S=>(r env S).rs env fun ds S=>if ds.length=ns.length∧ns≠[]∧ns.length≤1000 then .exc ⟨C,(ns.zip ds).reverse⟩ env S else .stuck
section
variable {X:Cx} {W:WX} {x:Str} {C fI A:Addr} {fd:FuncData} {k:Nat} {ns:List Str} {e:Expr} {es:List Expr} {r:MA} {p pos pos':Pos}
theorem map_fst_zip {α β:Type}:∀ {as:List α} {bs:List β},as.length=bs.length→(as.zip bs).map (·.1)=as
  | [],[],_=>rfl
  | a::as,b::bs,h=>by simp[map_fst_zip (as:=as) (bs:=bs) (by simpa using h)]
theorem map_snd_zip {α β:Type}:∀ {as:List α} {bs:List β},as.length=bs.length→(as.zip bs).map (·.2)=bs
  | [],[],_=>rfl
  | a::as,b::bs,h=>by simp[map_snd_zip (as:=as) (bs:=bs) (by simpa using h)]
theorem xh {α β:Type} {as:List α} {bs:List β} (h:as.length=bs.length):as.reverse.zip bs.reverse=(as.zip bs).reverse:=by
  unfold List.zip
  exact (List.reverse_zipWith h).symm
theorem RepAll.rev {K:PySem.W.Frag} {mg:Str→Option Value} {μ:Mu} {H:Hp} {ds:List D} {vs:List V} (h:RepAll K mg μ H ds vs):RepAll K mg μ H ds.reverse vs.reverse:=h.reverse
theorem uW {ps:List Str} (hc:X.calm=true) (tk:Takes X W) (T:ExcI X.K C fI A ns) (F:FnOk X.prog X.w X.K X.mg X.base C8.CX0 k fI fd ps (spI C ns)) (hb:Binds X.K fd ps []) (hr:Room (k+1) X.A) (gC:X.mg x=some (.ref C)) (hg:Gl X x)
    (ha:PA X (e::es) (tAs X W r)) (hdb:(x == ("__debug__":Str))=false:=by decide) (he:starEach (e::es) X.env=(false,eval e X.env)::starEach es X.env:=by rfl) (hpl:(backTo pos (starEach es X.env)).any (·.1)=false:=by rfl) :
    PS X (.Raise (some (.Call (.Name x p) (e::es) [] pos)) none pos') (tS X W (eh x ns r)):=
  fB (L2N.ps_raise hc tk (vO T.ox T.ini T.ty F hr hb pass0 hg gC ha hdb he hpl)) fun D σ H ⟨env,S,μ,rl,o⟩=>by
    refine ⟨env,S,μ,rl,(OutS.rs rl.env o).mono fun vs H1 ⟨μ1,S1,ds,st,rs,ra,o1⟩=>?_⟩
    split at o1
    · rename_i hl
      obtain ⟨hl,hn,h1000⟩:=hl
      have hlv:vs.length=ns.length:=by rw[←ra.length]; exact hl
      refine ⟨by omega,fun a na=>⟨a,vs,by simp,hlv,upd_same,fun dx H' hd hne e1 e2 e3=>?_⟩⟩
      rw[upd_ne hne] at hd
      refine ⟨rfl,dx,_,e1,e2,hd,?_⟩
      have eH:upd (del H' a) dx (.xd (ns.zip vs).reverse)=upd H1 dx (.xd (ns.zip vs).reverse):=by
        funext b
        by_cases h1:b=dx
        · subst h1; rw[upd_same,upd_same]
        · rw[upd_ne h1,upd_ne h1]
          by_cases h2:b=a
          · subst h2; rw[del_same,na]
          · rw[del_ne h2,e3 b h2 h1,upd_ne h2]
      rw[eH]
      have sm:Sm H1 (upd H1 dx (.xd (ns.zip vs).reverse)):=.upd hd
      have st2:Step μ1 H1 μ1 (upd H1 dx (.xd (ns.zip vs).reverse)):=.of_sm sm
      refine o1 μ1 _ σ (.ref C) (some dx) st2 ((rl.env.step st).step st2) (rs.sm sm) ⟨C,gC,rfl,.inr ⟨?_,dx,vs.reverse,rfl,?_,?_⟩⟩
      · intro z
        have z:(ns.zip ds).reverse=[]:=z
        rw[List.reverse_eq_nil_iff,List.zip_eq_nil_iff] at z
        rcases z with z|z
        · exact hn z
        · rw[z] at hl
          exact hn (List.eq_nil_of_length_eq_zero hl.symm)
      · rw[upd_same]
        show some (HO.xd _)=some (HO.xd _)
        rw[List.map_reverse,map_fst_zip hl.symm,xh hlv.symm]
      · show RepAll _ _ _ _ (((ns.zip ds).reverse).map (·.2)) _
        rw[List.map_reverse,map_snd_zip hl.symm]
        exact RepAll.step st2 _ _ ra.rev
    · exact o1.elim
end
end DL
namespace DL
open PySem PySem.Spec PyProof.Rows L2
def vr (cn:Str) (n k:Nat) (mi:MF) (r rk:MA):ME:=fun env S=>(r env S).bind fun ds S=>(rk env S).bind fun zs S=>if ds.length+1=k then (chk n mi (.loc S.length::(ds++zs)) (S++[.ins cn []])).bind (fun d S'=>match d with
  | .none=>.ok (.loc S.length) S'
  | _=>.stuck) else .stuck
section
variable {X:Cx} {W:WX} {k n:Nat} {f C A:Addr} {ps ks:List Str} {m mi:MF} {x y nm cn kn:Str} {dv:Int} {p p1 p2 pos kpos:Pos} {e ek:Expr} {es:List Expr} {r:MA} {mk:ME}
theorem f8 {x:Str} {fI:Addr} {ns:List Str} {pos':Pos} (hc:X.calm=true) (tk:Takes X W) (T:ExcI X.K C fI A ns) (F:∃fd,FnOk X.prog X.w X.K X.mg X.base C8.CX0 k fI fd ps (spI C ns)∧Binds X.K fd ps []) (hr:Room (k+1) X.A) (gC:X.mg x=some (.ref C)) (hg:Gl X x)
    (ha:PA X (e::es) (tAs X W r)) (hdb:(x == ("__debug__":Str))=false:=by decide) (he:starEach (e::es) X.env=(false,eval e X.env)::starEach es X.env:=by rfl) (hpl:(backTo pos (starEach es X.env)).any (·.1)=false:=by rfl) :
    PS X (.Raise (some (.Call (.Name x p) (e::es) [] pos)) none pos') (tS X W (eh x ns r)):=by
  obtain ⟨fd,F,hb⟩:=F
  exact uW hc tk T F hb hr gC hg ha hdb he hpl
end
end DL
namespace DL
open PySem PySem.Spec PyProof.Rows L2
end DL
namespace DL
open PySem PySem.Spec PyProof.Rows L2 LamX
/-- keeps what is wanted from being rewritten ahead of its time -/
inductive Dum {α:Type} (x:α):Type where
  | mk
/-- what holds behind an expression -/
@[irreducible] def Res.wp {α:Type} (r:Res α) (Q:α→Sto→Prop) (E:XV→Sto→Prop) (_:Dum Q:=.mk) (_:Dum E:=.mk) (_:True:=trivial):Prop:=match r with
  | .ok a S=>Q a S
  | .exc e S=>E e S
  | .stuck=>False
/-- what holds behind statements: next,return,raise,break,continue -/
@[irreducible] def RS.wp (x:RS) (N:En→Sto→Prop) (R:D→Sto→Prop) (E:XV→Sto→Prop) (B C:En→Sto→Prop) (_:Dum N:=.mk) (_:Dum R:=.mk) (_:Dum E:=.mk) (_:Dum B:=.mk) (_:Dum C:=.mk) (_:True:=trivial):Prop:=match x with
  | .next e S=>N e S
  | .brk e S=>B e S
  | .cont e S=>C e S
  | .ret d S=>R d S
  | .exc e _ S=>E e S
  | .stuck=>False
abbrev NoE:XV→Sto→Prop:=fun _ _=>False
abbrev NoB:En→Sto→Prop:=fun _ _=>False
@[simp] theorem NoE_at (e:XV) (S:Sto):NoE e S=False:=rfl
@[simp] theorem NoB_at (e:En) (S:Sto):NoB e S=False:=rfl
section
variable {α β:Type} {Q Q':α→Sto→Prop} {E E':XV→Sto→Prop} {N N' B B' C C':En→Sto→Prop} {R R':D→Sto→Prop} {S:Sto} {env:En}
@[simp] theorem fJ {a:α}:Res.wp (.ok a S) Q E=Q a S:=by unfold Res.wp; rfl
@[simp] theorem mE:Res.wp (.stuck:Res α) Q E=False:=by unfold Res.wp; rfl
@[simp] theorem wp_exc {a:XV}:Res.wp (.exc a S:Res α) Q E=E a S:=by unfold Res.wp; rfl
@[simp] theorem j7:RS.wp .stuck N R E B C=False:=by unfold RS.wp; rfl
@[simp] theorem f9 {a:En}:RS.wp (.next a S) N R E B C=N a S:=by unfold RS.wp; rfl
@[simp] theorem tq {a:D}:RS.wp (.ret a S) N R E B C=R a S:=by unfold RS.wp; rfl
@[simp] theorem xi {a:XV}:RS.wp (.exc a env S) N R E B C=E a S:=by unfold RS.wp; rfl
@[simp] theorem xj {a:En}:RS.wp (.brk a S) N R E B C=B a S:=by unfold RS.wp; rfl
@[simp] theorem jU {a:En}:RS.wp (.cont a S) N R E B C=C a S:=by unfold RS.wp; rfl
@[simp ↓] theorem xk {r:Res β} {f:β→Sto→Res α}:Res.wp (r.bind f) Q E=Res.wp r (fun a S=>Res.wp (f a S) Q E) E:=by cases r<;>simp[Res.bind]
@[simp ↓] theorem wp_rs {r:Res β} {k:β→Sto→RS}:RS.wp (r.rs env k) N R E B C=Res.wp r (fun a S=>RS.wp (k a S) N R E B C) E:=by cases r<;>simp[Res.rs]
@[simp ↓] theorem wp_then {r:RS} {k:MS}:RS.wp (r.andThen k) N R E B C=RS.wp r (fun e S=>RS.wp (k e S) N R E B C) R E B C:=by cases r<;>simp[RS.andThen]
theorem xl {r:Res α} (h:Res.wp r Q E) (i:∀a S,Q a S→Q' a S) (j:∀a S,E a S→E' a S):Res.wp r Q' E':=by
  cases r with
  | ok a S=>rw[fJ] at *; exact i a S h
  | exc e S=>rw[wp_exc] at *; exact j e S h
  | stuck=>rw[mE] at *; exact h
/-- a call whose rule is known; nothing is raised -/
theorem cV {r:Res α} (h:Res.wp r Q NoE) (i:∀a S,Q a S→Q' a S):Res.wp r Q' E':=xl h i fun _ _ z=>z.elim
theorem mF {r:RS} (h:RS.wp r N R E B C) (hn:∀a S,N a S→N' a S) (hr:∀a S,R a S→R' a S) (he:∀a S,E a S→E' a S:=by exact fun _ _ h=>h) (hb:∀a S,B a S→B' a S:=by exact fun _ _ h=>h) (hc:∀a S,C a S→C' a S:=by exact fun _ _ h=>h):RS.wp r N' R' E' B' C':=by
  cases r with
  | next a S=>rw[f9] at *; exact hn a S h
  | ret a S=>rw[tq] at *; exact hr a S h
  | exc a e S=>rw[xi] at *; exact he a S h
  | brk a S=>rw[xj] at *; exact hb a S h
  | cont a S=>rw[jU] at *; exact hc a S h
  | stuck=>rw[j7] at *; exact h
theorem og {c:Prop} [Decidable c] {a b:RS} (h1:c→RS.wp a N R E B C) (h2:¬c→RS.wp b N R E B C):RS.wp (if c then a else b) N R E B C:=by
  by_cases h:c
  · rw[if_pos h]; exact h1 h
  · rw[if_neg h]; exact h2 h
/-- what a def gives -/
theorem aW {n:Nat} {m:MS} {ds:List D} {Q:D→Sto→Prop} (h:RS.wp (m (ds.map some++List.replicate n none) S) (fun _ S=>Q .none S) Q E NoB NoB):Res.wp (ay n m ds S) Q E:=by
  rw[vc]
  generalize m (ds.map some++List.replicate n none) S=x at h
  cases x<;>simpa using h
theorem xm {τ:Type} {g:MG} {b:MS} {f:τ→D} (I:List τ→List τ→En→Sto→Prop) (xs:List τ)
    (step:∀pre x rest env S,pre++x::rest=xs→I pre (x::rest) env S→∃p,g (f x) env S=some p∧RS.wp (b p.1 p.2) (I (pre++[x]) rest) R E N (I (pre++[x]) rest))
    (fin:∀env S,I xs [] env S→N env S):∀(pre rest:List τ) (env:En) (S:Sto),pre++rest=xs→I pre rest env S→RS.wp (g6 g b (rest.map f) env S) N R E B C:=by
  intro pre rest
  induction rest generalizing pre with
  | nil=>
    intro env S e h
    rw[List.append_nil] at e
    subst e
    show RS.wp (.next env S) N R E B C
    rw[f9]
    exact fin env S h
  | cons x rest ih=>
    intro env S e h
    obtain ⟨p,e1,hb⟩:=step pre x rest env S e h
    rw[List.map_cons]
    unfold g6
    rw[e1]
    simp only[]
    generalize b p.1 p.2=y at hb
    cases y with
    | next e' S'=>rw[f9] at hb; exact ih (pre++[x]) e' S' (by rw[←e]; simp) hb
    | cont e' S'=>rw[jU] at hb; exact ih (pre++[x]) e' S' (by rw[←e]; simp) hb
    | brk e' S'=>simpa using hb
    | ret d S'=>simpa using hb
    | exc x e' S'=>simpa using hb
    | stuck=>simpa using hb
theorem eU {τ:Type} {g:MG} {b:MS} {f:τ→D} {ds:List D} {env:En} {S:Sto} (xs:List τ) (I:List τ→List τ→En→Sto→Prop) (e:ds=xs.map f) (h:I [] xs env S)
    (step:∀pre x rest env S,pre++x::rest=xs→I pre (x::rest) env S→∃p,g (f x) env S=some p∧RS.wp (b p.1 p.2) (I (pre++[x]) rest) R E N (I (pre++[x]) rest))
    (fin:∀env S,I xs [] env S→N env S):RS.wp (g6 g b ds env S) N R E B C:=by
  subst e
  exact xm I xs step fin [] xs env S rfl h
/-- a comprehension -/
theorem jV {τ:Type} {g:MG} {tc:MT} {m:ME} {w:En} {f:τ→D} {ds:List D} {Q:List D→Sto→Prop} (xs:List τ) (I:List τ→List τ→List D→Sto→Prop) (e:ds=xs.map f) (h:I [] xs [] S)
    (step:∀pre x rest acc S,pre++x::rest=xs→I pre (x::rest) acc S→∃p,g (f x) w S=some p∧Res.wp (tc p.1 p.2) (fun c S=>if c=true then Res.wp (m p.1 S) (fun v S=>acc.length<1000000∧I (pre++[x]) rest (acc++[v]) S) NoE else I (pre++[x]) rest acc S) NoE)
    (fin:∀acc S,I xs [] acc S→Q acc S):Res.wp (dE g tc m w ds [] S) Q E:=by
  subst e
  have loop:∀(rest pre:List τ) (acc:List D) (S:Sto),pre++rest=xs→I pre rest acc S→Res.wp (dE g tc m w (rest.map f) acc S) Q E:=by
    intro rest
    induction rest with
    | nil=>
      intro pre acc S e h
      rw[List.append_nil] at e
      rw[e] at h
      show Res.wp (.ok acc S) Q E
      rw[fJ]
      exact fin acc S h
    | cons x rest ih=>
      intro pre acc S e h
      obtain ⟨p,e1,ht⟩:=step pre x rest acc S e h
      rw[List.map_cons]
      unfold dE fC
      simp only[e1]
      generalize tc p.1 p.2=y at ht
      cases y with
      | exc _ _=>simp at ht
      | stuck=>simp at ht
      | ok c S1=>
        rw[fJ] at ht
        have ht:if c=true then Res.wp (m p.1 S1) (fun v S=>acc.length<1000000∧I (pre++[x]) rest (acc++[v]) S) NoE else I (pre++[x]) rest acc S1:=ht
        cases c with
        | false=>
          simp only[bO,Bool.false_eq_true,if_false] at ht ⊢
          exact ih (pre++[x]) acc S1 (by rw[←e]; simp) ht
        | true=>
          simp only[bO,if_true] at ht ⊢
          generalize m p.1 S1=z at ht
          cases z with
          | exc _ _=>simp at ht
          | stuck=>simp at ht
          | ok v S2=>
            rw[fJ] at ht
            obtain ⟨hl,hi⟩:=ht
            simp only[bO,hl,if_true]
            exact ih (pre++[x]) (acc++[v]) S2 (by rw[←e]; simp) hi
  exact loop xs [] [] S rfl h
/-- a comprehension of what changes nothing,by an own filter and function -/
theorem r9 {τ:Type} {g:MG} {tc:MT} {m:ME} {w:En} {f:τ→D} {S:Sto} (xs:List τ) (p:τ→Bool) (v:τ→D) (hl:xs.length≤1000000)
    (hx:∀x∈xs,∃e,g (f x) w S=some (e,S)∧tc e S=.ok (p x) S∧(p x=true→m e S=.ok (v x) S)):dE g tc m w (xs.map f) [] S=.ok ((xs.filter p).map v) S:=by
  have loop:∀(rest:List τ) (acc:List D),(∀x∈rest,x∈xs)→acc.length+rest.length≤1000000→dE g tc m w (rest.map f) acc S=.ok (acc++(rest.filter p).map v) S:=by
    intro rest
    induction rest with
    | nil=>intro acc _ _; simp[dE]
    | cons x rest ih=>
      intro acc hm hl
      obtain ⟨e,e1,e2,e3⟩:=hx x (hm x List.mem_cons_self)
      rw[List.length_cons] at hl
      rw[List.map_cons]
      unfold dE fC
      simp only[e1,e2,bO]
      cases hp:p x with
      | false=>
        simp only[Bool.false_eq_true,if_false,bO]
        rw[ih acc (fun y hy=>hm y (List.mem_cons_of_mem _ hy)) (by omega)]
        simp[hp]
      | true=>
        have ha:acc.length<1000000:=by omega
        simp only[if_true,e3 hp,bO,ha]
        rw[ih (acc++[v x]) (fun y hy=>hm y (List.mem_cons_of_mem _ hy)) (by simp; omega)]
        simp[hp]
  exact (loop xs [] (fun _ h=>h) (by simpa using hl)).trans (by simp)
/-- while,by a measure -/
theorem qJ {c:MT} {b:MS} (I:Nat→En→Sto→Prop)
    (step:∀k env S,I k env S→Res.wp (c env S) (fun t S=>if t=true then RS.wp (b env S) (fun e S=>∃j,j<k∧I j e S) R E N (fun e S=>∃j,j<k∧I j e S) else N env S) E) :
    ∀(n k:Nat) (env:En) (S:Sto),k<n→I k env S→RS.wp (fh c b n env S) N R E B C:=by
  intro n
  induction n with
  | zero=>intro k env S h; omega
  | succ n ih=>
    intro k env S h hi
    unfold fh
    have hs:=step k env S hi
    generalize c env S=y at hs
    cases y with
    | stuck=>simp at hs
    | exc x S'=>simpa using hs
    | ok t S'=>
      rw[fJ] at hs
      have hs:if t=true then RS.wp (b env S') (fun e S=>∃j,j<k∧I j e S) R E N (fun e S=>∃j,j<k∧I j e S) else N env S':=hs
      rw[rs_ok]
      cases t with
      | false=>simpa using hs
      | true=>
        simp only[if_true] at hs ⊢
        generalize b env S'=z at hs
        cases z with
        | next e S2=>rw[f9] at hs; obtain ⟨j,hj,hi⟩:=hs; exact ih j e S2 (by omega) hi
        | cont e S2=>rw[jU] at hs; obtain ⟨j,hj,hi⟩:=hs; exact ih j e S2 (by omega) hi
        | brk e S2=>simpa using hs
        | ret e S2=>simpa using hs
        | exc x e S2=>simpa using hs
        | stuck=>simpa using hs
end
end DL
namespace DL
open PySem PySem.Spec PyProof.Rows L2 LamX
@[simp] theorem xn (a b:String):(Str.ofString a=Str.ofString b)↔a=b:=by
  refine ⟨fun h=>?_,fun h=>by rw[h]⟩
  rw[Str.ofString_eq_toList,Str.ofString_eq_toList] at h
  have h1:a.toList.map Char.toNat=b.toList.map Char.toNat:=by simpa using h
  have h2:a.toList=b.toList:=(List.map_inj_right fun x y e=>Char.toNat_inj.mp e).mp h1
  exact String.toList_inj.mp h2
@[simp] theorem lookup_if (k a:Str) (v:D) (r:List (Str × D)):List.lookup k ((a,v)::r)=if k=a then some v else List.lookup k r:=by
  rw[List.lookup_cons]
  by_cases h:k=a
  · rw[if_pos h,show (k == a)=true by simp[h]]
  · rw[if_neg h,show (k == a)=false by simp[h]]
def ci (xs ys:List D):Bool:=PyData.eqvAll (pdFs xs) (pdFs ys)
@[simp] theorem peqAll_nil:ci [] []=true:=by simp[ci,pdFs,PyData.eqvAll]
@[simp] theorem yY (x:D) (xs:List D):ci [] (x::xs)=false:=by simp[ci,pdFs,PyData.eqvAll]
@[simp] theorem yZ (x:D) (xs:List D):ci (x::xs) []=false:=by simp[ci,pdFs,PyData.eqvAll]
@[simp] theorem ya (x y:D) (xs ys:List D):ci (x::xs) (y::ys)=(peq x y&&ci xs ys):=by simp[ci,peq,pdFs,PyData.eqvAll]
@[simp] theorem xo (i j:Int):peq (.int i) (.int j)=decide (i=j):=by unfold peq pdF PyData.eqv; exact Bool.beq_eq_decide_eq i j
@[simp] theorem xp (i j:Str):peq (.str i) (.str j)=decide (i=j):=by unfold peq pdF PyData.eqv; exact Bool.beq_eq_decide_eq i j
@[simp] theorem peq_bool (i j:Bool):peq (.bool i) (.bool j)=(i == j):=by unfold peq pdF PyData.eqv; rfl
@[simp] theorem vy (xs ys:List D):peq (.tup xs) (.tup ys)=ci xs ys:=by unfold peq pdF PyData.eqv; rfl
@[simp] theorem peq_tp (xs ys:List D):peq (.tup xs) (.tpn ys)=ci xs ys:=by unfold peq pdF PyData.eqv; rfl
@[simp] theorem peq_pt (xs ys:List D):peq (.tpn xs) (.tup ys)=ci xs ys:=by unfold peq pdF PyData.eqv; rfl
@[simp] theorem peq_pp (xs ys:List D):peq (.tpn xs) (.tpn ys)=ci xs ys:=by unfold peq pdF PyData.eqv; rfl
@[simp] theorem peq_ll (xs ys:List D):peq (.lst xs) (.lst ys)=ci xs ys:=by unfold peq pdF PyData.eqv; rfl
@[simp] theorem peq_nn:peq .none .none=true:=by unfold peq pdF PyData.eqv; rfl
@[simp] theorem peq_lt (xs ys:List D):peq (.lst xs) (.tup ys)=false:=by unfold peq pdF PyData.eqv; rfl
@[simp] theorem peq_tl (xs ys:List D):peq (.tup xs) (.lst ys)=false:=by unfold peq pdF PyData.eqv; rfl
@[simp] theorem peq_sl (x:Str) (ys:List D):peq (.str x) (.lst ys)=false:=by unfold peq pdF PyData.eqv; rfl
@[simp] theorem peq_ls (x:Str) (ys:List D):peq (.lst ys) (.str x)=false:=by unfold peq pdF PyData.eqv; rfl
@[simp] theorem peq_st (x:Str) (ys:List D):peq (.str x) (.tup ys)=false:=by unfold peq pdF PyData.eqv; rfl
@[simp] theorem peq_ts (x:Str) (ys:List D):peq (.tup ys) (.str x)=false:=by unfold peq pdF PyData.eqv; rfl
@[simp] theorem peq_nt (ys:List D):peq .none (.tup ys)=false:=by unfold peq pdF PyData.eqv; rfl
@[simp] theorem peq_tn (ys:List D):peq (.tup ys) .none=false:=by unfold peq pdF PyData.eqv; rfl
@[simp] theorem peq_is (i:Int) (x:Str):peq (.int i) (.str x)=false:=by unfold peq pdF PyData.eqv; rfl
@[simp] theorem peq_si (i:Int) (x:Str):peq (.str x) (.int i)=false:=by unfold peq pdF PyData.eqv; rfl
@[simp] theorem peq_it (i:Int) (x:List D):peq (.int i) (.tup x)=false:=by unfold peq pdF PyData.eqv; rfl
@[simp] theorem peq_ti (i:Int) (x:List D):peq (.tup x) (.int i)=false:=by unfold peq pdF PyData.eqv; rfl
@[simp] theorem peq_ni (i:Int):peq .none (.int i)=false:=by unfold peq pdF PyData.eqv; rfl
@[simp] theorem peq_in (i:Int):peq (.int i) .none=false:=by unfold peq pdF PyData.eqv; rfl
@[simp] theorem peq_ns (i:Str):peq .none (.str i)=false:=by unfold peq pdF PyData.eqv; rfl
@[simp] theorem peq_sn (i:Str):peq (.str i) .none=false:=by unfold peq pdF PyData.eqv; rfl
@[simp] theorem dok_none (n:Nat):dok n .none=true:=by cases n<;>rfl
@[simp] theorem dok_bool (n:Nat) (b:Bool):dok n (.bool b)=true:=by cases n<;>rfl
@[simp] theorem xq (n:Nat) (i:Int):dok n (.int i)=true:=by cases n<;>rfl
@[simp] theorem dok_str (n:Nat) (x:Str):dok n (.str x)=PyData.strOk x:=by cases n<;>rfl
@[simp] theorem xr (n:Nat) (xs:List D):dok (n+1) (.tup xs)=xs.all (dok n):=rfl
@[simp] theorem xt (n:Nat) (xs:List D):dok (n+1) (.lst xs)=xs.all (dok n):=rfl
@[simp] theorem xu (n:Nat) (xs:List D):dok (n+1) (.tpn xs)=xs.all (dok n):=rfl
@[simp] theorem dok_tup60 (xs:List D):dok 60 (.tup xs)=xs.all (dok 59):=rfl
@[simp] theorem ng (xs:List D):dok 60 (.lst xs)=xs.all (dok 59):=rfl
@[simp] theorem uX (xs:List D):dok 60 (.tpn xs)=xs.all (dok 59):=rfl
@[simp] theorem dok_tup59 (xs:List D):dok 59 (.tup xs)=xs.all (dok 58):=rfl
@[simp] theorem dok_lst59 (xs:List D):dok 59 (.lst xs)=xs.all (dok 58):=rfl
@[simp] theorem dok_tpn59 (xs:List D):dok 59 (.tpn xs)=xs.all (dok 58):=rfl
@[simp] theorem dok_tup58 (xs:List D):dok 58 (.tup xs)=xs.all (dok 57):=rfl
@[simp] theorem dok_lst58 (xs:List D):dok 58 (.lst xs)=xs.all (dok 57):=rfl
@[simp] theorem dok_tpn58 (xs:List D):dok 58 (.tpn xs)=xs.all (dok 57):=rfl
/-- what stands for values of one kind -/
structure Enc {τ:Type} (k:Nat) (f:τ→D):Prop where
  dok:∀n a,k≤n→dok n (f a)=true
  peq:∀a b,peq (f a) (f b)=true↔a=b
theorem Enc.int:Enc 0 D.int:=⟨fun n a _=>xq n a,fun a b=>by simp⟩
theorem Enc.all {τ:Type} {k:Nat} {f:τ→D} (h:Enc k f):∀xs ys:List τ,ci (xs.map f) (ys.map f)=true↔xs=ys
  | [],[]=>by simp
  | [],y::ys=>by simp
  | x::xs,[]=>by simp
  | x::xs,y::ys=>by simp[h.peq,h.all xs ys]
theorem Enc.tup {τ:Type} {k:Nat} {f:τ→D} (h:Enc k f):Enc (k+1) fun xs:List τ=>D.tup (xs.map f):=
  ⟨fun n a hn=>by
    obtain ⟨m,rfl⟩:∃m,n=m+1:=⟨n - 1,by omega⟩
    rw[xr,List.all_map,List.all_eq_true]
    exact fun x _=>h.dok m x (by omega),fun a b=>by rw[vy,h.all]⟩
theorem Enc.tpn {τ:Type} {k:Nat} {f:τ→D} (h:Enc k f):Enc (k+1) fun xs:List τ=>D.tpn (xs.map f):=
  ⟨fun n a hn=>by
    obtain ⟨m,rfl⟩:∃m,n=m+1:=⟨n - 1,by omega⟩
    rw[xu,List.all_map,List.all_eq_true]
    exact fun x _=>h.dok m x (by omega),fun a b=>by rw[peq_pp,h.all]⟩
theorem Enc.lst {τ:Type} {k:Nat} {f:τ→D} (h:Enc k f):Enc (k+1) fun xs:List τ=>D.lst (xs.map f):=
  ⟨fun n a hn=>by
    obtain ⟨m,rfl⟩:∃m,n=m+1:=⟨n - 1,by omega⟩
    rw[xt,List.all_map,List.all_eq_true]
    exact fun x _=>h.dok m x (by omega),fun a b=>by rw[peq_ll,h.all]⟩
theorem Enc.pair {τ υ:Type} {k l:Nat} {f:τ→D} {g:υ→D} (h:Enc k f) (h':Enc l g):Enc (max k l+1) fun p:τ × υ=>D.tup [f p.1,g p.2]:=
  ⟨fun n a hn=>by
    obtain ⟨m,rfl⟩:∃m,n=m+1:=⟨n - 1,by omega⟩
    simp[h.dok m a.1 (by omega),h'.dok m a.2 (by omega)],fun a b=>by simp[h.peq,h'.peq,Prod.ext_iff]⟩
theorem jW {α:Type} {xs:List α} {i:Int} (h0:0≤i) (h1:i<xs.length):atI xs i=xs[i.toNat]?:=by
  unfold atI ixN
  simp[h0,h1]
theorem xw {α:Type} {xs:List α} {i:Nat} (h1:i<xs.length):atI xs i=xs[i]?:=by
  rw[jW (by omega) (by omega),Int.toNat_natCast]
@[simp] theorem atI_0 {α:Type} (x:α) (xs:List α):atI (x::xs) 0=some x:=by rw[jW (by omega) (by simp)]; rfl
theorem ni {α:Type} {x:α} {xs:List α} {i:Int} (h:0<i):atI (x::xs) i=atI xs (i - 1):=by
  unfold atI ixN
  by_cases hl:i<xs.length+1
  · rw[if_pos (by omega),if_pos (by simpa using hl),if_pos (by omega),if_pos (by omega)]
    simp only[Option.bind_some]
    obtain ⟨j,rfl⟩:∃j:Nat,i=j+1:=⟨(i - 1).toNat,by omega⟩
    rw[show ((j:Int)+1).toNat=j+1 by omega,show ((j:Int)+1 - 1).toNat=j by omega]
    rfl
  · rw[if_pos (by omega),if_neg (by simpa using hl),if_pos (by omega),if_neg (by omega)]; rfl
@[simp] theorem atI_1 {α:Type} (x:α) (xs:List α):atI (x::xs) 1=atI xs 0:=ni (by omega)
@[simp] theorem atI_2 {α:Type} (x:α) (xs:List α):atI (x::xs) 2=atI xs 1:=ni (by omega)
@[simp] theorem atI_3 {α:Type} (x:α) (xs:List α):atI (x::xs) 3=atI xs 2:=ni (by omega)
@[simp] theorem atI_4 {α:Type} (x:α) (xs:List α):atI (x::xs) 4=atI xs 3:=ni (by omega)
@[simp] theorem atI_5 {α:Type} (x:α) (xs:List α):atI (x::xs) 5=atI xs 4:=ni (by omega)
@[simp] theorem atI_6 {α:Type} (x:α) (xs:List α):atI (x::xs) 6=atI xs 5:=ni (by omega)
@[simp] theorem fIx_tup (S:Sto) (xs:List D) (i:Int):fIx S (.tup xs) (.int i)=atI xs i:=rfl
@[simp] theorem fIx_tpn (S:Sto) (xs:List D) (i:Int):fIx S (.tpn xs) (.int i)=atI xs i:=rfl
@[simp] theorem fIx_lst (S:Sto) (xs:List D) (i:Int):fIx S (.lst xs) (.int i)=atI xs i:=rfl
@[simp] theorem fIx_ro (S:Sto) (xs:List D) (i:Int):fIx S (.ro xs) (.int i)=atI xs i:=rfl
theorem xx {S:Sto} {l:Nat} {xs:List D} (h:S[l]?=some (.lst xs)) (i:Int):fIx S (.loc l) (.int i)=atI xs i:=by simp[fIx,h]
@[simp] theorem dctOf_dct (t:Bool) (kvs:List (D × D)):c4 (some (.dct t kvs))=some (t,kvs):=rfl
@[simp] theorem dctOf_fdc (t:Bool) (kvs:List (D × D)):c4 (some (.fdc t kvs))=some (t,kvs):=rfl
@[simp] theorem dctOf_lst (xs:List D):c4 (some (.lst xs))=none:=rfl
@[simp] theorem dctOf_none:c4 none=none:=rfl
theorem mG {S:Sto} {l:Nat} {t:Bool} {kvs:List (D × D)} (h:c4 S[l]?=some (t,kvs)) (k:D):fIx S (.loc l) k=if cB t k then cz t kvs k else none:=by rcases ik h with h|h<;>simp[fIx,h]
theorem jX {S:Sto} {l:Nat} {t:Bool} {kvs:List (D × D)} (h:S[l]?=some (.dct t kvs)) (k:D):fIx S (.loc l) k=if cB t k then cz t kvs k else none:=by simp[fIx,h]
theorem sA {α:Type} {xs:List α} {i:Int} (h0:0≤i) (h1:i<xs.length):∃x∈xs,atI xs i=some x:=by
  rw[jW h0 h1,List.getElem?_eq_getElem (by omega)]
  exact ⟨_,List.getElem_mem _,rfl⟩
@[simp] theorem fLen_tup (S:Sto) (xs:List D):cg S [.tup xs]=some (.int xs.length):=rfl
@[simp] theorem fLen_tpn (S:Sto) (xs:List D):cg S [.tpn xs]=some (.int xs.length):=rfl
@[simp] theorem fLen_lst (S:Sto) (xs:List D):cg S [.lst xs]=some (.int xs.length):=rfl
@[simp] theorem fLen_ro (S:Sto) (xs:List D):cg S [.ro xs]=some (.int xs.length):=rfl
theorem jY {S:Sto} {l:Nat} {xs:List D} (h:S[l]?=some (.lst xs)):cg S [.loc l]=some (.int xs.length):=by simp[cg,h]
@[simp] theorem fInt_int (S:Sto) (i:Int):hJ S [.int i]=some (.int i):=rfl
@[simp] theorem fTup_lst (S:Sto) (xs:List D):iu S [.lst xs]=some (.tpn xs):=rfl
theorem mH {S:Sto} {l:Nat} {xs:List D} (h:S[l]?=some (.lst xs)):iu S [.loc l]=some (.tpn xs):=by simp[iu,h]
@[simp] theorem fSum_ints (S:Sto) (xs:List Int):fSum S [.lst (xs.map .int)]=some (.int xs.sum):=by
  have h:oX (xs.map .int)=some xs:=by
    induction xs with
    | nil=>rfl
    | cons x xs ih=>simp[oX,ih]
  simp[fSum,h]
@[simp] theorem iz (S:Sto) (xs:List Bool):j3 S [.lst (xs.map .bool)]=some (.bool (xs.all id)):=by
  have h:fX (xs.map .bool)=some xs:=by
    induction xs with
    | nil=>rfl
    | cons x xs ih=>simp[fX,ih]
  simp[j3,h]
@[simp] theorem fMax2_int (S:Sto) (i j:Int):fMax2 S [.int i,.int j]=some (.int (max i j)):=by
  unfold fMax2
  simp only[Option.some.injEq,D.int.injEq]
  split<;>omega
@[simp] theorem fMin2_int (S:Sto) (i j:Int):nO S [.int i,.int j]=some (.int (min i j)):=by
  unfold nO
  simp only[Option.some.injEq,D.int.injEq]
  split<;>omega
@[simp] theorem dTru_bool (S:Sto) (b:Bool):fc S (.bool b)=some b:=rfl
@[simp] theorem dTru_tup (S:Sto) (xs:List D):fc S (.tup xs)=some (!xs.isEmpty):=rfl
@[simp] theorem dTru_lst (S:Sto) (xs:List D):fc S (.lst xs)=some (!xs.isEmpty):=rfl
@[simp] theorem dTru_int (S:Sto) (i:Int):fc S (.int i)=some (i != 0):=rfl
@[simp] theorem iterD_tup (S:Sto) (xs:List D):bI S (.tup xs)=some (.items xs):=by simp[bI]
@[simp] theorem iterD_tpn (S:Sto) (xs:List D):bI S (.tpn xs)=some (.items xs):=by simp[bI]
@[simp] theorem iterD_lst (S:Sto) (xs:List D):bI S (.lst xs)=some (.items xs):=by simp[bI]
@[simp] theorem iterD_ro (S:Sto) (xs:List D):bI S (.ro xs)=some (.items xs):=by simp[bI]
theorem vz {α:Type} (xs:List α) (i:Nat):eF xs (some (i:Int)) none=xs.drop i:=by
  unfold eF
  rw[HT.sIx_nat,HT.sIx_none]
  by_cases h:i≤xs.length
  · rw[Nat.min_eq_left h]; exact List.take_of_length_le (by simp)
  · rw[Nat.min_eq_right (by omega),List.drop_length,List.drop_eq_nil_of_le (by omega),List.take_nil]
theorem oh {α:Type} (xs:List α) (i:Nat):eF xs none (some (i:Int))=xs.take i:=by
  unfold eF
  rw[HT.sIx_nat,HT.sIx_none,List.drop_zero,Nat.sub_zero]
  by_cases h:i≤xs.length
  · rw[Nat.min_eq_left h]
  · rw[Nat.min_eq_right (by omega),List.take_of_length_le (Nat.le_refl _),List.take_of_length_le (by omega)]
theorem sB {d:D} {xs:List D} (h:d=.tup xs∨d=.tpn xs) (lo hi:Option Int):∃d',mr d lo hi=some d'∧(d'=.tup (eF xs lo hi)∨d'=.tpn (eF xs lo hi)):=by
  rcases h with rfl|rfl
  · exact ⟨_,rfl,.inl rfl⟩
  · refine ⟨_,rfl,?_⟩
    split
    · rename_i h
      right
      congr 1
      unfold eF
      rw[h.1,h.2]
      simp
    · exact .inl rfl
@[simp] theorem fCut_lst (xs:List D) (lo hi:Option Int):mr (.lst xs) lo hi=some (.lst (eF xs lo hi)):=rfl
@[simp] theorem fCut_tup (xs:List D) (lo hi:Option Int):mr (.tup xs) lo hi=some (.tup (eF xs lo hi)):=rfl
theorem qK {τ:Type} (xs:List τ) (k:τ→Int) (v:τ→D) (n:Int):cz false (xs.map fun x=>(.int (k x),v x)) (.int n)=(xs.find? fun x=>k x == n).map v:=by
  unfold cz
  rw[List.find?_map,Option.map_map]
  congr 1
  congr 1
  funext x
  simp only[Function.comp_apply,keq,cJ,Option.some.injEq,Sum.inl.injEq]
  exact (Bool.beq_eq_decide_eq _ _).symm
@[simp] theorem keyOk_int (i:Int):cB false (.int i)=true:=rfl
@[simp] theorem keyOk_str (i:Str):cB false (.str i)=true:=rfl
theorem zip_map {τ:Type} (f:τ→D):∀xs ys:List τ,eQ (xs.map f) (ys.map f)=(xs.zip ys).map fun p=>D.tup [f p.1,f p.2]
  | [],ys=>by cases ys<;>rfl
  | x::xs,[]=>rfl
  | x::xs,y::ys=>by simp[eQ,zip_map f xs ys]
theorem mI {τ:Type} (f:τ→D):∀(xs:List τ) (n:Nat),di n (xs.map f)=(xs.zipIdx n).map fun p=>D.tup [.int (p.2:Nat),f p.1]
  | [],_=>rfl
  | x::xs,n=>by simp[di,mI f xs (n+1)]
@[simp] theorem cMul_l2 (j:Int):bT 2 j=true:=by simp[bT]
@[simp] theorem cMul_r2 (j:Int):bT j 2=true:=by simp[bT]
@[simp] theorem cMul_l3 (j:Int):bT 3 j=true:=by simp[bT]
@[simp] theorem cMul_r3 (j:Int):bT j 3=true:=by simp[bT]
@[simp] theorem cMul_l5 (j:Int):bT 5 j=true:=by simp[bT]
@[simp] theorem cMul_r5 (j:Int):bT j 5=true:=by simp[bT]
@[simp] theorem cMul_l7 (j:Int):bT 7 j=true:=by simp[bT]
@[simp] theorem cMul_r7 (j:Int):bT j 7=true:=by simp[bT]
@[simp] theorem cMul_l10 (j:Int):bT 10 j=true:=by simp[bT]
@[simp] theorem cMul_r10 (j:Int):bT j 10=true:=by simp[bT]
@[simp] theorem cMul_l20 (j:Int):bT 20 j=true:=by simp[bT]
@[simp] theorem cMul_r20 (j:Int):bT j 20=true:=by simp[bT]
@[simp] theorem cMul_l30 (j:Int):bT 30 j=true:=by simp[bT]
@[simp] theorem cMul_r30 (j:Int):bT j 30=true:=by simp[bT]
@[simp] theorem cMul_l60 (j:Int):bT 60 j=true:=by simp[bT]
@[simp] theorem cMul_r60 (j:Int):bT j 60=true:=by simp[bT]
@[simp] theorem cMul_l100 (j:Int):bT 100 j=true:=by simp[bT]
@[simp] theorem cMul_r100 (j:Int):bT j 100=true:=by simp[bT]
@[simp] theorem cMul_l1440 (j:Int):bT 1440 j=true:=by simp[bT]
@[simp] theorem cMul_r1440 (j:Int):bT j 1440=true:=by simp[bT]
@[simp] theorem yb (j:Int):bT 48271 j=true:=by simp[bT]
@[simp] theorem yc (j:Int):bT j 48271=true:=by simp[bT]
@[simp] theorem cMod_2 (j:Int):eE j 2=true:=by simp[eE]
@[simp] theorem cMod_3 (j:Int):eE j 3=true:=by simp[eE]
@[simp] theorem cMod_4 (j:Int):eE j 4=true:=by simp[eE]
@[simp] theorem cMod_7 (j:Int):eE j 7=true:=by simp[eE]
@[simp] theorem cMod_100 (j:Int):eE j 100=true:=by simp[eE]
@[simp] theorem cMod_1440 (j:Int):eE j 1440=true:=by simp[eE]
@[simp] theorem u5 (j:Int):eE j 2147483647=true:=by simp[eE]
@[simp] theorem cDiv_2 (j:Int):iR j 2=true:=by simp[iR]
@[simp] theorem cDiv_4 (j:Int):iR j 4=true:=by simp[iR]
@[simp] theorem cDiv_7 (j:Int):iR j 7=true:=by simp[iR]
@[simp] theorem cDiv_100 (j:Int):iR j 100=true:=by simp[iR]
@[simp] theorem cDiv_1440 (j:Int):iR j 1440=true:=by simp[iR]
@[simp] theorem smallI_0:bK 0=true:=smallI_iff.mpr (by decide)
@[simp] theorem smallI_1:bK 1=true:=smallI_iff.mpr (by decide)
@[simp] theorem smallI_2:bK 2=true:=smallI_iff.mpr (by decide)
@[simp] theorem smallI_3:bK 3=true:=smallI_iff.mpr (by decide)
@[simp] theorem smallI_4:bK 4=true:=smallI_iff.mpr (by decide)
@[simp] theorem smallI_5:bK 5=true:=smallI_iff.mpr (by decide)
@[simp] theorem smallI_7:bK 7=true:=smallI_iff.mpr (by decide)
@[simp] theorem smallI_8:bK 8=true:=smallI_iff.mpr (by decide)
theorem sC {i j:Int} (h : -18446744073709551616<i∧i<18446744073709551616):bT i j=true:=by
  simp[bT,h.1,h.2]
theorem dk {i:Int} (h : -4611686018427387904≤i∧i<4611686018427387904):bK i=true:=by
  exact smallI_iff.mpr ⟨by omega,by omega⟩
@[simp] theorem set_concat {α:Type} (T:List α) (x y:α):(T++[x]).set T.length y=T++[y]:=by
  rw[List.set_append_right _ _ (Nat.le_refl _)]; simp
@[simp] theorem wipe_nil (e:En):ao e []=e:=rfl
@[simp] theorem wipe_cons (e:En) (v:Nat) (vs:List Nat):ao e (v::vs)=(ao e vs).set v none:=rfl
end DL
namespace DL
open PySem PySem.Spec PyProof.Rows L2 LamX
section
variable {N B B2:En→Sto→Prop} {R:D→Sto→Prop} {E:XV→Sto→Prop}
@[simp ↓] theorem wq_eBin (f:Sto→D→D→Option D) (ma mb:ME) (env:En) (S:Sto) {Q:D→Sto→Prop}:Res.wp (aK f ma mb env S) Q E=Res.wp ((ma env S).bind fun a S=>(mb env S).bind fun b S=>ofO S (f S a b)) Q E:=rfl
@[simp ↓] theorem wq_tOf (m:ME) (env:En) (S:Sto) {Q:Bool→Sto→Prop}:Res.wp (tOf m env S) Q E=Res.wp ((m env S).bind fun d S=>match d with
  | .bool b=>.ok b S
  | _=>.stuck) Q E:=rfl
@[simp ↓] theorem wq_pNo (x0:En) (S:Sto) {Q:Option Int→Sto→Prop}:Res.wp (pNo  x0 S) Q E=Res.wp (.ok none S) Q E:=rfl
@[simp ↓] theorem wq_pSome (m:ME) (env:En) (S:Sto) {Q:Option Int→Sto→Prop}:Res.wp (jJ m env S) Q E=Res.wp ((m env S).bind fun d S=>match d with
  | .int i=>.ok (some i) S
  | _=>.stuck) Q E:=rfl
@[simp ↓] theorem wq_eCut (m:ME) (ml mh:MP) (env:En) (S:Sto) {Q:D→Sto→Prop}:Res.wp (oO m ml mh env S) Q E=Res.wp ((m env S).bind fun d S=>(ml env S).bind fun lo S=>(mh env S).bind fun hi S=>ofO S (mr (view0 S d) lo hi)) Q E:=rfl
@[simp ↓] theorem wq_eC (d:D) (x0:En) (S:Sto) {Q:D→Sto→Prop}:Res.wp (eC d x0 S) Q E=Res.wp (.ok d S) Q E:=rfl
@[simp ↓] theorem wq_eV (i:Nat) (env:En) (S:Sto) {Q:D→Sto→Prop}:Res.wp (eV i env S) Q E=Res.wp (match env[i]? with
  | some (some d)=>.ok d S
  | _=>.stuck) Q E:=rfl
@[simp ↓] theorem wq_tTru (m:ME) (env:En) (S:Sto) {Q:Bool→Sto→Prop}:Res.wp (cQ m env S) Q E=Res.wp ((m env S).bind fun d S=>ofO S (fc S d)) Q E:=rfl
@[simp ↓] theorem wq_tAndM (ma mb:MT) (env:En) (S:Sto) {Q:Bool→Sto→Prop}:Res.wp (nH ma mb env S) Q E=Res.wp ((ma env S).bind fun c S=>if c=true then mb env S else .ok false S) Q E:=rfl
@[simp ↓] theorem wq_tOrM (ma mb:MT) (env:En) (S:Sto) {Q:Bool→Sto→Prop}:Res.wp (dJ ma mb env S) Q E=Res.wp ((ma env S).bind fun c S=>if c=true then .ok true S else mb env S) Q E:=rfl
@[simp ↓] theorem wq_tNotM (ma:MT) (env:En) (S:Sto) {Q:Bool→Sto→Prop}:Res.wp (bu ma env S) Q E=Res.wp ((ma env S).bind fun c S=>.ok (!c) S) Q E:=rfl
@[simp ↓] theorem wq_eAnd (ma mb:ME) (env:En) (S:Sto) {Q:D→Sto→Prop}:Res.wp (jx ma mb env S) Q E=Res.wp ((ma env S).bind fun d S=>(ofO S (fc S d)).bind fun c S=>if c=true then mb env S else .ok d S) Q E:=rfl
@[simp ↓] theorem wq_eOr (ma mb:ME) (env:En) (S:Sto) {Q:D→Sto→Prop}:Res.wp (eOr ma mb env S) Q E=Res.wp ((ma env S).bind fun d S=>(ofO S (fc S d)).bind fun c S=>if c=true then .ok d S else mb env S) Q E:=rfl
@[simp ↓] theorem wq_eNot (ma:ME) (env:En) (S:Sto) {Q:D→Sto→Prop}:Res.wp (eNot ma env S) Q E=Res.wp ((ma env S).bind fun d S=>(ofO S (fc S d)).bind fun c S=>.ok (.bool (!c)) S) Q E:=rfl
@[simp ↓] theorem wq_eIf (tc:MT) (ma mb:ME) (env:En) (S:Sto) {Q:D→Sto→Prop}:Res.wp (eIf tc ma mb env S) Q E=Res.wp ((tc env S).bind fun c S=>if c=true then ma env S else mb env S) Q E:=rfl
@[simp ↓] theorem wq_eNeg (ma:ME) (env:En) (S:Sto) {Q:D→Sto→Prop}:Res.wp (eNeg ma env S) Q E=Res.wp ((ma env S).bind fun d S=>match d with
  | .int i=>.ok (.int (-i)) S
  | _=>.stuck) Q E:=rfl
@[simp ↓] theorem wq_eChain (f g:Sto→D→D→Option D) (ma mb mc:ME) (env:En) (S:Sto) {Q:D→Sto→Prop}:Res.wp (ip f g ma mb mc env S) Q E=Res.wp ((ma env S).bind fun a S=>(mb env S).bind fun b S=>match f S a b with
  | some (.bool true)=>(mc env S).bind fun c S=>ofO S (g S b c)
  | some (.bool false)=>.ok (.bool false) S
  | _=>.stuck) Q E:=rfl
@[simp ↓] theorem wq_aNil (x0:En) (S:Sto) {Q:List D→Sto→Prop}:Res.wp (aJ  x0 S) Q E=Res.wp (.ok [] S) Q E:=rfl
@[simp ↓] theorem wq_aCons (m:ME) (r:MA) (env:En) (S:Sto) {Q:List D→Sto→Prop}:Res.wp (aC m r env S) Q E=Res.wp ((m env S).bind fun d S=>(r env S).bind fun ds S=>.ok (d::ds) S) Q E:=rfl
@[simp ↓] theorem wq_eTup (r:MA) (env:En) (S:Sto) {Q:D→Sto→Prop}:Res.wp (cx r env S) Q E=Res.wp ((r env S).bind fun ds S=>if ds.length≤1000000 then .ok (.tup ds) S else .stuck) Q E:=rfl
@[simp ↓] theorem wq_eLst (r:MA) (env:En) (S:Sto) {Q:D→Sto→Prop}:Res.wp (jK r env S) Q E=Res.wp ((r env S).bind fun ds S=>if ds.length≤1000000 then .ok (.lst ds) S else .stuck) Q E:=rfl
@[simp ↓] theorem wq_eLstM (r:MA) (env:En) (S:Sto) {Q:D→Sto→Prop}:Res.wp (iU r env S) Q E=Res.wp ((r env S).bind fun ds S=>if ds.length≤1000000 then .ok (.loc S.length) (S++[.lst ds]) else .stuck) Q E:=rfl
@[simp ↓] theorem wq_eDct (t:Bool) (x0:En) (S:Sto) {Q:D→Sto→Prop}:Res.wp (oQ t x0 S) Q E=Res.wp (.ok (.loc S.length) (S++[.dct t []])) Q E:=rfl
@[simp ↓] theorem wq_sNil (env:En) (S:Sto):RS.wp (b4  env S) N R E B B2=RS.wp (.next env S) N R E B B2:=rfl
@[simp ↓] theorem wq_sSeq (a b:MS) (env:En) (S:Sto):RS.wp (aV a b env S) N R E B B2=RS.wp ((a env S).andThen b) N R E B B2:=rfl
@[simp ↓] theorem wq_sExpr (m:ME) (env:En) (S:Sto):RS.wp (dL m env S) N R E B B2=RS.wp ((m env S).rs env fun _ S=>.next env S) N R E B B2:=rfl
@[simp ↓] theorem wq_sRet (m:ME) (env:En) (S:Sto):RS.wp (bF m env S) N R E B B2=RS.wp ((m env S).rs env fun d S=>.ret d S) N R E B B2:=rfl
@[simp ↓] theorem wq_sRetN (x0:En) (S:Sto):RS.wp (sRetN  x0 S) N R E B B2=RS.wp (.ret .none S) N R E B B2:=rfl
@[simp ↓] theorem wq_sBreak (env:En) (S:Sto):RS.wp (vG  env S) N R E B B2=RS.wp (.brk env S) N R E B B2:=rfl
@[simp ↓] theorem wq_sCont (env:En) (S:Sto):RS.wp (sCont  env S) N R E B B2=RS.wp (.cont env S) N R E B B2:=rfl
@[simp ↓] theorem wq_sStuck (x0:En) (x1:Sto):RS.wp (iq  x0 x1) N R E B B2=RS.wp (.stuck) N R E B B2:=rfl
@[simp ↓] theorem wq_eStuck (x0:En) (x1:Sto) {Q:D→Sto→Prop}:Res.wp (vH  x0 x1) Q E=Res.wp (.stuck) Q E:=rfl
@[simp ↓] theorem wq_sIf (tc:MT) (a b:MS) (env:En) (S:Sto):RS.wp (sIf tc a b env S) N R E B B2=RS.wp ((tc env S).rs env fun c S=>if c=true then a env S else b env S) N R E B B2:=rfl
@[simp ↓] theorem wq_sAsg (m:ME) (g:MG) (env:En) (S:Sto):RS.wp (fg m g env S) N R E B B2=RS.wp ((m env S).rs env fun d S=>ofG (g d env S)) N R E B B2:=rfl
@[simp ↓] theorem wq_sPar (i j:Nat) (r:MA) (env:En) (S:Sto):RS.wp (rU i j r env S) N R E B B2=RS.wp ((r env S).rs env fun ds S=>match ds with
  | [a,b]=>.next ((env.set i (some a)).set j (some b)) S
  | _=>.stuck) N R E B B2:=rfl
@[simp ↓] theorem wq_sSet (i:Nat) (m:ME) (env:En) (S:Sto):RS.wp (bw i m env S) N R E B B2=RS.wp ((m env S).rs env fun d S=>.next (env.set i (some d)) S) N R E B B2:=rfl
@[simp ↓] theorem wq_sAug (i:Nat) (f:Sto→D→D→Option D) (m:ME) (env:En) (S:Sto):RS.wp (sAug i f m env S) N R E B B2=RS.wp (match env[i]? with
  | some (some a)=>(m env S).rs env fun b S=>match f S a b with
    | some d=>.next (env.set i (some d)) S
    | none=>.stuck
  | _=>.stuck) N R E B B2:=rfl
@[simp ↓] theorem wq_iAny (m:ME) (env:En) (S:Sto) {Q:ItD→Sto→Prop}:Res.wp (cF m env S) Q E=Res.wp ((m env S).bind fun d S=>ofO S (bI S d)) Q E:=rfl
@[simp ↓] theorem wq_iRng1D (r:MA) (env:En) (S:Sto) {Q:ItD→Sto→Prop}:Res.wp (g5 r env S) Q E=Res.wp ((r env S).bind fun ds S=>match ds with
  | [.int j]=>if bK j then .ok (.items (jy 0 j.toNat)) S else .stuck
  | _=>.stuck) Q E:=rfl
@[simp ↓] theorem wq_iRng2D (r:MA) (env:En) (S:Sto) {Q:ItD→Sto→Prop}:Res.wp (ll r env S) Q E=Res.wp ((r env S).bind fun ds S=>match ds with
  | [.int i,.int j]=>if bK i&&bK j then .ok (.items (jy i (j - i).toNat)) S else .stuck
  | _=>.stuck) Q E:=rfl
@[simp ↓] theorem wq_iEnumD (r:MA) (env:En) (S:Sto) {Q:ItD→Sto→Prop}:Res.wp (lm r env S) Q E=Res.wp ((r env S).bind fun ds S=>match ds.map vt with
  | [.tup xs]=>.ok (.items (di 0 xs)) S
  | [.lst xs]=>.ok (.items (di 0 xs)) S
  | [.loc l]=>match S[l]? with
    | some (.lst _)=>.ok (.liveE l) S
    | _=>.stuck
  | _=>.stuck) Q E:=rfl
@[simp ↓] theorem wq_iZipD (r:MA) (env:En) (S:Sto) {Q:ItD→Sto→Prop}:Res.wp (tQ r env S) Q E=Res.wp ((r env S).bind fun ds S=>match ds.map vt with
  | [.tup xs,.tup ys]=>.ok (.items (eQ xs ys)) S
  | [.lst xs,.lst ys]=>.ok (.items (eQ xs ys)) S
  | _=>.stuck) Q E:=rfl
@[simp ↓] theorem wq_sFor (mi:MI) (g:MG) (b:MS) (env:En) (S:Sto):RS.wp (fv mi g b env S) N R E B B2=RS.wp ((mi env S).rs env fun it S=>match it with
  | .items ds=>g6 g b ds env S
  | .live l=>gi g b l (cy S l+1) 0 env S
  | .liveE l=>kc g b l (cy S l+1) 0 env S) N R E B B2:=rfl
@[simp ↓] theorem wq_compR (mi:MI) (g:MG) (tc:MT) (m:ME) (vs:List Nat) (env:En) (S:Sto) {Q:List D→Sto→Prop}:Res.wp (fy mi g tc m vs env S) Q E=Res.wp ((mi env S).bind fun it S=>match it with
  | .items ds=>dE g tc m (ao env vs) ds [] S
  | .live l=>eX g tc m (ao env vs) l (cy S l+1) 0 [] S
  | .liveE l=>g7 g tc m (ao env vs) l (cy S l+1) 0 [] S) Q E:=rfl
@[simp ↓] theorem wq_eComp (mi:MI) (g:MG) (tc:MT) (m:ME) (vs:List Nat) (env:En) (S:Sto) {Q:D→Sto→Prop}:Res.wp (bv mi g tc m vs env S) Q E=Res.wp ((fy mi g tc m vs env S).bind fun ds S=>.ok (.lst ds) S) Q E:=rfl
@[simp ↓] theorem wq_eCompM (mi:MI) (g:MG) (tc:MT) (m:ME) (vs:List Nat) (env:En) (S:Sto) {Q:D→Sto→Prop}:Res.wp (lw mi g tc m vs env S) Q E=Res.wp ((fy mi g tc m vs env S).bind fun ds S=>.ok (.loc S.length) (S++[.lst ds])) Q E:=rfl
@[simp ↓] theorem wq_tYesM (x0:En) (S:Sto) {Q:Bool→Sto→Prop}:Res.wp (c5  x0 S) Q E=Res.wp (.ok true S) Q E:=rfl
@[simp ↓] theorem wq_chk (n:Nat) (m:MF) (ds:List D) (S:Sto) {Q:D→Sto→Prop}:Res.wp (chk n m ds S) Q E=Res.wp (if ds.length=n then m ds S else .stuck) Q E:=rfl
@[simp ↓] theorem wq_eCall (n:Nat) (m:MF) (r:MA) (env:En) (S:Sto) {Q:D→Sto→Prop}:Res.wp (aR n m r env S) Q E=Res.wp ((r env S).bind fun ds S=>chk n m ds S) Q E:=rfl
@[simp ↓] theorem wq_eMeth (cn nm:Str) (n:Nat) (m:MF) (ma:ME) (r:MA) (env:En) (S:Sto) {Q:D→Sto→Prop}:Res.wp (cu cn nm n m ma r env S) Q E=Res.wp ((ma env S).bind fun d S=>match d with
  | .loc l=>match S[l]? with
    | some (.ins C fs)=>if C=cn∧(fs.map (·.1)).contains nm=false then (r env S).bind fun ds S=>chk n m (.loc l::ds) S else .stuck
    | _=>.stuck
  | _=>.stuck) Q E:=rfl
@[simp ↓] theorem wq_eMake (cn:Str) (n:Nat) (mi:MF) (r:MA) (env:En) (S:Sto) {Q:D→Sto→Prop}:Res.wp (ke cn n mi r env S) Q E=Res.wp ((r env S).bind fun ds S=>(chk n mi (.loc S.length::ds) (S++[.ins cn []])).bind fun d S'=>match d with
  | .none=>.ok (.loc S.length) S'
  | _=>.stuck) Q E:=rfl
@[simp ↓] theorem wq_eFld (cn f:Str) (ma:ME) (env:En) (S:Sto) {Q:D→Sto→Prop}:Res.wp (df cn f ma env S) Q E=Res.wp ((ma env S).bind fun d S=>match d with
  | .loc l=>match S[l]? with
    | some (.ins C fs)=>if C=cn then ofO S (fs.lookup f) else .stuck
    | _=>.stuck
  | _=>.stuck) Q E:=rfl
@[simp ↓] theorem wq_sFldM (cn f:Str) (ma mv:ME) (env:En) (S:Sto):RS.wp (jP cn f ma mv env S) N R E B B2=RS.wp ((mv env S).rs env fun d S=>(ma env S).rs env fun o S=>match o with
  | .loc l=>match S[l]? with
    | some (.ins C fs)=>if C=cn∧fs.length<1000 then .next env (S.set l (.ins C (gt f d fs))) else .stuck
    | _=>.stuck
  | _=>.stuck) N R E B B2:=rfl
@[simp ↓] theorem wq_eB (f:BF) (r:MA) (env:En) (S:Sto) {Q:D→Sto→Prop}:Res.wp (eB f r env S) Q E=Res.wp ((r env S).bind fun ds S=>ofO S (f S ds)) Q E:=rfl
@[simp ↓] theorem wq_eM (ok:Sto→D→Bool) (f:BM) (ma:ME) (r:MA) (env:En) (S:Sto) {Q:D→Sto→Prop}:Res.wp (eM ok f ma r env S) Q E=Res.wp ((ma env S).bind fun d S=>if ok S d then (r env S).bind fun ds S=>match f S d ds with
  | some p=>.ok p.1 p.2
  | none=>.stuck else .stuck) Q E:=rfl
@[simp ↓] theorem wq_eRev (m:ME) (env:En) (S:Sto) {Q:D→Sto→Prop}:Res.wp (eRev m env S) Q E=Res.wp ((m env S).bind fun d S=>match view S d with
  | .lst xs=>.ok (.lst xs.reverse) S
  | _=>.stuck) Q E:=rfl
@[simp ↓] theorem wq_eDictP (r:MA) (env:En) (S:Sto) {Q:D→Sto→Prop}:Res.wp (oZ r env S) Q E=Res.wp ((r env S).bind fun ds S=>match ds with
  | [.tpn xs]=>match eD xs with
    | some ps=>if xs.length≤1000000 then .ok (.loc S.length) (S++[.dct false (dj [] ps)]) else .stuck
    | none=>.stuck
  | _=>.stuck) Q E:=rfl
@[simp ↓] theorem wq_eDComp (mi:MI) (g:MG) (tc:MT) (mk mv:ME) (vs:List Nat) (env:En) (S:Sto) {Q:D→Sto→Prop}:Res.wp (l5 mi g tc mk mv vs env S) Q E=Res.wp ((mi env S).bind fun it S=>match it with
  | .items ds=>(eT g tc mk mv (ao env vs) ds [] S).bind kD
  | .live _=>.stuck
  | .liveE _=>.stuck) Q E:=rfl
@[simp ↓] theorem wq_sRaise (C:Str) (env:En) (S:Sto):RS.wp (l8 C env S) N R E B B2=RS.wp (.exc ⟨C,[]⟩ env S) N R E B B2:=rfl
@[simp ↓] theorem wq_eKind (hd:Hdr) (m:ME) (env:En) (S:Sto) {Q:D→Sto→Prop}:Res.wp (eKind hd m env S) Q E=Res.wp (vW hd (m env S)) Q E:=rfl
@[simp ↓] theorem wq_kD (kvs:List (D × D)) (S:Sto) {Q:D→Sto→Prop}:Res.wp (kD kvs S) Q E=Res.wp (.ok (.loc S.length) (S++[.dct false kvs])) Q E:=rfl
end
end DL
namespace DL
open PySem PySem.Spec PyProof.Rows L2 LamX
def dlt (a b:D):Bool:=PySem.W.dataLt (pdF a) (pdF b)
def dn (xs ys:List D):Bool:=PySem.W.rowLt (pdFs xs) (pdFs ys)
def alk (a b:D):Bool:=PySem.W.alike (pdF a) (pdF b)
def dq (xs ys:List D):Bool:=PySem.W.alikeAll (pdFs xs) (pdFs ys)
theorem jZ (a b:D):dle a b=!dlt b a:=rfl
@[simp] theorem alk_int (i j:Int):alk (.int i) (.int j)=true:=by simp[alk,pdF,PySem.W.alike]
@[simp] theorem alk_str (i j:Str):alk (.str i) (.str j)=true:=by simp[alk,pdF,PySem.W.alike]
@[simp] theorem alk_tup (i j:List D):alk (.tup i) (.tup j)=dq i j:=by simp[alk,dq,pdF,PySem.W.alike]
@[simp] theorem alk_tpn (i j:List D):alk (.tpn i) (.tpn j)=dq i j:=by simp[alk,dq,pdF,PySem.W.alike]
@[simp] theorem alk_lst (i j:List D):alk (.lst i) (.lst j)=dq i j:=by simp[alk,dq,pdF,PySem.W.alike]
@[simp] theorem yd (x y:D) (i j:List D):dq (x::i) (y::j)=(alk x y&&dq i j):=by simp[alk,dq,pdFs,PySem.W.alikeAll]
@[simp] theorem ye (j:List D):dq [] j=true:=by simp[dq,pdFs,PySem.W.alikeAll]
@[simp] theorem yf (j:List D):dq j []=true:=by cases j<;>simp[dq,pdFs,PySem.W.alikeAll]
@[simp] theorem dlt_int (i j:Int):dlt (.int i) (.int j)=decide (i<j):=by unfold dlt pdF; rw[PySem.W.dataLt_int]
@[simp] theorem dlt_str (i j:Str):dlt (.str i) (.str j)=decide (i.cps.toList<j.cps.toList):=by unfold dlt pdF; rw[PySem.W.dataLt_str]
@[simp] theorem iM (i j:List D):dlt (.tup i) (.tup j)=dn i j:=by unfold dlt pdF; rw[PySem.W.dataLt_tuple]; rfl
@[simp] theorem dlt_tpn (i j:List D):dlt (.tpn i) (.tpn j)=dn i j:=by unfold dlt pdF; rw[PySem.W.dataLt_tuple]; rfl
@[simp] theorem dlt_tp (i j:List D):dlt (.tup i) (.tpn j)=dn i j:=by unfold dlt pdF; rw[PySem.W.dataLt_tuple]; rfl
@[simp] theorem dlt_pt (i j:List D):dlt (.tpn i) (.tup j)=dn i j:=by unfold dlt pdF; rw[PySem.W.dataLt_tuple]; rfl
@[simp] theorem fK:dn [] []=false:=by unfold dn PySem.W.rowLt; exact lex_irrefl _
theorem hW {x y:D} (h:alk x y=true) (i j:List D):dn (x::i) (y::j)=if peq x y=true then dn i j else dlt x y:=by
  simp only[dn,PySem.W.rowLt,pdFs]
  exact PySem.W.dataLt_cons h _ _
@[simp] theorem bL (x y:Int) (i j:List D):dn (.int x::i) (.int y::j)=if x=y then dn i j else decide (x<y):=by
  rw[hW (by simp)]; simp
@[simp] theorem dltAll_str (x y:Str) (i j:List D):dn (.str x::i) (.str y::j)=if x=y then dn i j else decide (x.cps.toList<y.cps.toList):=by
  rw[hW (by simp)]; simp
/-- three numbers,the lesser ahead -/
def le3 (a b:Int × Int × Int):Bool:=decide (a.1<b.1∨(a.1=b.1∧(a.2.1<b.2.1∨(a.2.1=b.2.1∧a.2.2≤b.2.2))))
def trD (t:Int × Int × Int):D:=.tup [.int t.1,.int t.2.1,.int t.2.2]
theorem v0 (a b:Int × Int × Int):dle (trD a) (trD b)=le3 a b:=by
  rw[jZ,trD,trD,iM,bL,bL,bL,fK,le3]
  rw[Bool.eq_iff_iff]
  by_cases h1:b.1=a.1
  · by_cases h2:b.2.1=a.2.1
    · by_cases h3:b.2.2=a.2.2
      · simp[h1,h2,h3]
      · simp[h1,h2,h3]
    · simp[h1,h2]; omega
  · simp[h1]; omega
theorem gA (a b:Int × Int × Int):(le3 a b||le3 b a)=true:=by
  simp[le3]; omega
theorem gB {a b c:Int × Int × Int} (h:le3 a b=true) (h2:le3 b c=true):le3 a c=true:=by
  simp[le3] at *; omega
/-- sorted(..) of tuples -/
theorem j8 {τ:Type} {S:Sto} {d:D} (xs:List τ) (f:τ→D) (le:τ→τ→Bool) (h:dU S d=some (xs.map f)) (hk:∀x,dok 60 (f x)=true) (ha:∀x y,alk (f x) (f y)=true) (hf:∀x,∃a l,f x=.tup (a::l)) (hle:∀x y,dle (f x) (f y)=le x y) (hl:xs.length≤1000000):dW S [d]=some (.lst ((xs.mergeSort le).map f)):=by
  have h1:eS (xs.map f)=true:=by
    unfold eS
    simp only[Bool.and_eq_true,List.all_eq_true,List.mem_map,forall_exists_index,and_imp,forall_apply_eq_imp_iff₂,Bool.or_eq_true]
    exact ⟨⟨fun x _=>hk x,fun x _ y _=>ha x y⟩,.inl fun x _=>by obtain ⟨a,l,e⟩:=hf x; rw[e]⟩
  simp only[dW,h,h1,List.length_map,hl,and_self,if_true]
  rw[List.map_mergeSort (s:=dle) fun a _ b _=>(hle a b).symm]
@[simp] theorem sortOf_lst (S:Sto) (xs:List D):dU S (.lst xs)=some xs:=rfl
theorem sD {S:Sto} {l:Nat} {xs:List D} (h:S[l]?=some (.lst xs)):dU S (.loc l)=some xs:=by simp[dU,h]
end DL
namespace DL
open PySem PySem.Spec PyProof.Rows L2 LamX
/-- the dict that is told by d -/
def nj (S:Sto) (d:D) (f:Nat→Bool→List (D × D)→Prop) (_:Dum f:=.mk) (_:True:=trivial):Prop:=match d with
  | .loc l=>match S[l]? with
    | some (.dct t kvs)=>f l t kvs
    | _=>False
  | _=>False
theorem uY {S:Sto} {l:Nat} {t:Bool} {kvs:List (D × D)} {f:Nat→Bool→List (D × D)→Prop} (h:S[l]?=some (.dct t kvs)):nj S (.loc l) f=f l t kvs:=by simp[nj,h]
section
variable {N B C:En→Sto→Prop} {R:D→Sto→Prop} {E:XV→Sto→Prop} {Q:D→Sto→Prop}
@[simp ↓] theorem wq_eLock (ml mb:ME) (env:En) (S:Sto):Res.wp (eLock ml mb env S) Q E=Res.wp (ml env S) (fun d _=>nj S d fun l t kvs=>Res.wp (mb env (S.set l (.fdc t kvs))) (fun d S'=>Q d (S'.set l (.dct t kvs))) NoE) NoE:=by
  unfold eLock
  cases ml env S with
  | exc _ _=>simp
  | stuck=>simp
  | ok d S1=>
    rw[fJ]
    cases d<;>simp only[nj,mE]
    rename_i l
    cases S[l]? with
    | none=>simp
    | some o=>
      cases o<;>simp only[mE]
      cases mb env _<;>simp
@[simp ↓] theorem wq_sLock (ml:ME) (mb:MS) (env:En) (S:Sto):RS.wp (qG ml mb env S) N R E B C=Res.wp (ml env S) (fun d _=>nj S d fun l t kvs=>RS.wp (mb env (S.set l (.fdc t kvs))) (fun e S'=>N e (S'.set l (.dct t kvs))) (fun d S'=>R d (S'.set l (.dct t kvs))) NoE (fun e S'=>B e (S'.set l (.dct t kvs))) (fun e S'=>C e (S'.set l (.dct t kvs)))) NoE:=by
  unfold qG
  cases ml env S with
  | exc _ _=>simp
  | stuck=>simp
  | ok d S1=>
    rw[fJ]
    cases d<;>simp only[nj,j7]
    rename_i l
    cases S[l]? with
    | none=>simp
    | some o=>
      cases o<;>simp only[j7]
      cases mb env _<;>simp
/-- the keys told by a function that changes nothing -/
theorem mJ {τ:Type} {mk:ME} {i:Nat} {env:En} {S:Sto} {f k:τ→D}:∀(xs:List τ) (acc:List D),(∀x∈xs,mk (env.set i (some (f x))) S=.ok (k x) S)→fG mk i env (xs.map f) acc S=.ok (acc++xs.map k) S
  | [],acc,_=>by simp[fG]
  | x::xs,acc,h=>by
    rw[List.map_cons]
    unfold fG
    rw[h x List.mem_cons_self,bO,mJ xs _ fun y hy=>h y (List.mem_cons_of_mem _ hy)]
    simp
/-- a walk told by turns that change nothing -/
theorem mK {τ:Type} {T:D→List D→Sto→Res (List D)} {f:τ→D} {S:Sto} {g:τ→List D}:∀(xs:List τ) (acc:List D),(acc++xs.flatMap g).length≤1000000→(∀x∈xs,∀acc,(acc++g x).length≤1000000→T (f x) acc S=.ok (acc++g x) S)→fH T (xs.map f) acc S=.ok (acc++xs.flatMap g) S
  | [],acc,_,_=>by simp[fH]
  | x::xs,acc,hl,h=>by
    rw[List.map_cons]
    unfold fH
    rw[h x List.mem_cons_self acc (by simp at hl ⊢; omega),bO,mK xs _ (by simpa using hl) fun y hy=>h y (List.mem_cons_of_mem _ hy)]
    simp
end
@[simp ↓] theorem qL (m:ME) (i:Nat) (mk:ME) (env:En) (S:Sto) {Q:D→Sto→Prop} {E:XV→Sto→Prop}:Res.wp (fz m i mk env S) Q E=Res.wp ((m env S).bind fun d S=>match dU S d with
  | some xs=>(fG mk i env xs [] S).bindS fun ks S=>if eS ks=true∧xs.length≤1000000 then .ok (.loc S.length) (S++[.lst (iy xs ks)]) else .stuck
  | none=>.stuck) Q E:=rfl
@[simp ↓] theorem wp_bindS {α β:Type} {r:Res β} {f:β→Sto→Res α} {Q:α→Sto→Prop} {E:XV→Sto→Prop}:Res.wp (r.bindS f) Q E=Res.wp r (fun a S=>Res.wp (f a S) Q E) NoE:=by cases r<;>simp[Res.bindS]
theorem oi {mi:MI} {g:MG} {tc:MT} {mi1:MI} {g1:MG} {tc1:MT} {m:ME} {vs vs1:List Nat} {env:En} {S S1:Sto} {ds:List D} {Q:D→Sto→Prop} {E:XV→Sto→Prop} (h:mi env S=.ok (.items ds) S1):Res.wp (mD mi g tc mi1 g1 tc1 m vs vs1 env S) Q E=Res.wp (fH (f7 g tc mi1 g1 tc1 m vs1 (ao env vs)) ds [] S1) (fun ds S=>Q (.lst ds) S) E:=by
  unfold mD oa
  rw[h]
  show Res.wp (Res.bind (fH _ ds [] S1) _) Q E=_
  rw[xk]
  have e:(fun (ds:List D) (S:Sto)=>Res.wp (.ok (.lst ds) S) Q E)=fun ds S=>Q (.lst ds) S:=by funext ds S; rw[fJ]
  exact congrArg (fun q:List D→Sto→Prop=>Res.wp (fH (f7 g tc mi1 g1 tc1 m vs1 (ao env vs)) ds [] S1) q E) e
end DL
namespace DL
open PySem PySem.Spec PyProof.Rows L2 LamX
section
variable {α β:Type} {N B C:En→Sto→Prop} {R:D→Sto→Prop} {E:XV→Sto→Prop} {S:Sto} {env:En}
theorem ja {τ:Type} {g:MG} {b:MS} {f:τ→D} {l:Nat} (xs:List τ) (I:List τ→List τ→En→Sto→Prop) (keep:∀pre rest env S,pre++rest=xs→I pre rest env S→S[l]?=some (.lst (xs.map f))) (h:I [] xs env S)
    (step:∀pre x rest env S,pre++x::rest=xs→I pre (x::rest) env S→∃p,g (f x) env S=some p∧RS.wp (b p.1 p.2) (I (pre++[x]) rest) R E N (I (pre++[x]) rest))
    (fin:∀env S,I xs [] env S→N env S):RS.wp (gi g b l (cy S l+1) 0 env S) N R E B C:=by
  have hlen:cy S l=xs.length:=by
    have:=keep [] xs env S rfl h
    simp[cy,this]
  rw[hlen]
  have loop:∀(rest pre:List τ) (env:En) (S:Sto),pre++rest=xs→I pre rest env S→RS.wp (gi g b l (rest.length+1) pre.length env S) N R E B C:=by
    intro rest
    induction rest with
    | nil=>
      intro pre env S e h
      have hk:=keep pre [] env S e h
      rw[List.append_nil] at e
      unfold gi
      simp only[hk]
      rw[show (xs.map f)[pre.length]?=none by rw[←e]; simp]
      simp only[f9]
      rw[e] at h
      exact fin env S h
    | cons x rest ih=>
      intro pre env S e h
      have hk:=keep pre (x::rest) env S e h
      obtain ⟨p,e1,hb⟩:=step pre x rest env S e h
      rw[List.length_cons]
      unfold gi
      simp only[hk]
      rw[show (xs.map f)[pre.length]?=some (f x) by rw[←e]; simp]
      simp only[e1]
      have hl:(pre++[x]).length=pre.length+1:=by simp
      generalize b p.1 p.2=y at hb
      cases y with
      | next e' S'=>rw[f9] at hb; simpa only [hl] using ih (pre++[x]) e' S' (by rw[←e]; simp) hb
      | cont e' S'=>rw[jU] at hb; simpa only [hl] using ih (pre++[x]) e' S' (by rw[←e]; simp) hb
      | brk e' S'=>simpa using hb
      | ret d S'=>simpa using hb
      | exc x e' S'=>simpa using hb
      | stuck=>simpa using hb
  exact loop xs [] env S rfl h
/-- a comprehension over it,by what changes nothing -/
theorem sE {τ:Type} {g:MG} {tc:MT} {m:ME} {w:En} {f:τ→D} {S:Sto} {l:Nat} (xs:List τ) (p:τ→Bool) (v:τ→D) (hl:xs.length≤1000000) (hS:S[l]?=some (.lst (xs.map f)))
    (hx:∀x∈xs,∃e,g (f x) w S=some (e,S)∧tc e S=.ok (p x) S∧(p x=true→m e S=.ok (v x) S)):eX g tc m w l (cy S l+1) 0 [] S=.ok ((xs.filter p).map v) S:=by
  have hlen:cy S l=xs.length:=by simp[cy,hS]
  rw[hlen]
  have loop:∀(rest pre:List τ) (acc:List D),pre++rest=xs→acc.length+rest.length≤1000000→eX g tc m w l (rest.length+1) pre.length acc S=.ok (acc++(rest.filter p).map v) S:=by
    intro rest
    induction rest with
    | nil=>
      intro pre acc e _
      rw[List.append_nil] at e
      subst e
      unfold eX
      simp only[hS]
      rw[show (pre.map f)[pre.length]?=none by simp]
      simp
    | cons x rest ih=>
      intro pre acc e hl
      obtain ⟨e',e1,e2,e3⟩:=hx x (by rw[←e]; simp)
      rw[List.length_cons] at hl ⊢
      unfold eX
      simp only[hS]
      rw[show (xs.map f)[pre.length]?=some (f x) by rw[←e]; simp]
      have hl2:(pre++[x]).length=pre.length+1:=by simp
      unfold fC
      simp only[e1,e2,bO]
      cases hp:p x with
      | false=>
        simp only[Bool.false_eq_true,if_false,bO]
        have:=ih (pre++[x]) acc (by rw[←e]; simp) (by omega)
        rw[hl2] at this
        rw[this]
        simp[hp]
      | true=>
        have ha:acc.length<1000000:=by omega
        simp only[if_true,e3 hp,bO,ha]
        have:=ih (pre++[x]) (acc++[v x]) (by rw[←e]; simp) (by simp; omega)
        rw[hl2] at this
        rw[this]
        simp[hp]
  exact (loop xs [] [] rfl (by simpa using hl)).trans (by simp)
end
theorem c7 {τ:Type} {g:MG} {tc:MT} {m:ME} {w:En} {f:τ→D} {S:Sto} {l:Nat} {Q:List D→Sto→Prop} {E:XV→Sto→Prop} (xs:List τ) (p:τ→Bool) (v:τ→D) (hl:xs.length≤1000000) (hS:S[l]?=some (.lst (xs.map f)))
    (hx:∀x∈xs,∃e,g (f x) w S=some (e,S)∧tc e S=.ok (p x) S∧(p x=true→m e S=.ok (v x) S)) (q:Q ((xs.filter p).map v) S):Res.wp (eX g tc m w l (cy S l+1) 0 [] S) Q E:=by
  rw[sE xs p v hl hS hx,fJ]; exact q
section
variable {Q:D→Sto→Prop} {E:XV→Sto→Prop}
@[simp ↓] theorem wq_eGet (md mk mz:ME) (env:En) (S:Sto):Res.wp (eGet md mk mz env S) Q E=Res.wp ((md env S).bind fun d S=>if isD S d=true then (mk env S).bind fun k S=>(mz env S).bind fun z S=>ofO S (vj S d k z) else .stuck) Q E:=rfl
@[simp] theorem eGet_at (md mk mz:ME) (env:En) (S:Sto):eGet md mk mz env S=((md env S).bind fun d S=>if isD S d=true then (mk env S).bind fun k S=>(mz env S).bind fun z S=>ofO S (vj S d k z) else .stuck):=rfl
/-- what setdefault does at last -/
def kSetd (l:Nat) (k z:D) (S:Sto):Res D:=match S[l]? with
    | some (.dct false kvs)=>if cB false k=true∧kvs.length<1000000 then (match cz false kvs k with
      | some v=>.ok v S
      | none=>.ok z (S.set l (.dct false (gR false kvs k z)))) else .stuck
    | _=>.stuck
def v6 (d k z:D) (S:Sto):Res D:=match d with
  | .loc l=>kSetd l k z S
  | _=>.stuck
@[simp] theorem kSetD_loc (l:Nat) (k z:D) (S:Sto):v6 (.loc l) k z S=kSetd l k z S:=rfl
theorem v7 (md mk mz:ME) (env:En) (S:Sto):eSetd md mk mz env S=((md env S).bind fun d S=>if isD S d=true then (mk env S).bind fun k S=>(mz env S).bind fun z S=>v6 d k z S else .stuck):=rfl
@[simp ↓] theorem wq_eSetd (md mk mz:ME) (env:En) (S:Sto):Res.wp (eSetd md mk mz env S) Q E=Res.wp ((md env S).bind fun d S=>if isD S d=true then (mk env S).bind fun k S=>(mz env S).bind fun z S=>v6 d k z S else .stuck) Q E:=by rw[v7]
@[simp ↓] theorem wq_eCallD (n:Nat) (d:D) (m:MF) (r:MA) (env:En) (S:Sto):Res.wp (vk n d m r env S) Q E=Res.wp ((r env S).bind fun ds S=>chk n m (ds++[d]) S) Q E:=rfl
@[simp ↓] theorem wq_eCallK (n k:Nat) (m:MF) (r rk:MA) (env:En) (S:Sto):Res.wp (vm n k m r rk env S) Q E=Res.wp ((r env S).bind fun ds S=>(rk env S).bind fun zs S=>if ds.length=k then chk n m (ds++zs) S else .stuck) Q E:=rfl
@[simp] theorem eCallD_at (n:Nat) (d:D) (m:MF) (r:MA) (env:En) (S:Sto):vk n d m r env S=((r env S).bind fun ds S=>chk n m (ds++[d]) S):=rfl
@[simp] theorem eCallK_at (n k:Nat) (m:MF) (r rk:MA) (env:En) (S:Sto):vm n k m r rk env S=((r env S).bind fun ds S=>(rk env S).bind fun zs S=>if ds.length=k then chk n m (ds++zs) S else .stuck):=rfl
end
@[simp] theorem sPar3_at (i j l:Nat) (r:MA) (env:En) (S:Sto):sPar3 i j l r env S=(r env S).rs env fun ds S=>match ds with
  | [a,b,c]=>.next (((env.set i (some a)).set j (some b)).set l (some c)) S
  | _=>.stuck:=rfl
@[simp ↓] theorem wq_sPar3 (i j l:Nat) (r:MA) (env:En) (S:Sto) {N B C:En→Sto→Prop} {R:D→Sto→Prop} {E:XV→Sto→Prop}:RS.wp (sPar3 i j l r env S) N R E B C=RS.wp ((r env S).rs env fun ds S=>match ds with
  | [a,b,c]=>.next (((env.set i (some a)).set j (some b)).set l (some c)) S
  | _=>.stuck) N R E B C:=rfl
@[simp] theorem isD_loc (S:Sto) (l:Nat):isD S (.loc l)=(c4 S[l]?).isSome:=rfl
theorem set_at {α:Type} (S X:List α) (k:Nat) (v:α):(S++X).set (S.length+k) v=S++X.set k v:=by
  rw[List.set_append_right _ _ (by omega)]
  congr 2; omega
theorem tr {α:Type} (S X:List α) (v:α):(S++X).set S.length v=S++X.set 0 v:=set_at S X 0 v
end DL
namespace DL
open PySem PySem.Spec PyProof.Rows L2
section
variable {N:En→Sto→Prop} {R:D→Sto→Prop} {E:XV→Sto→Prop} {B B2:En→Sto→Prop}
@[simp] theorem sRaiseF_at (C:Str) (ns:List Str) (r:MA) (env:En) (S:Sto):eh C ns r env S=(r env S).rs env fun ds S=>if ds.length=ns.length∧ns≠[]∧ns.length≤1000 then .exc ⟨C,(ns.zip ds).reverse⟩ env S else .stuck:=rfl
@[simp ↓] theorem wq_sRaiseF (C:Str) (ns:List Str) (r:MA) (env:En) (S:Sto):RS.wp (eh C ns r env S) N R E B B2=RS.wp ((r env S).rs env fun ds S=>if ds.length=ns.length∧ns≠[]∧ns.length≤1000 then .exc ⟨C,(ns.zip ds).reverse⟩ env S else .stuck) N R E B B2:=rfl
@[simp] theorem eMakeK_at (cn:Str) (n k:Nat) (mi:MF) (r rk:MA) (env:En) (S:Sto):vr cn n k mi r rk env S=(r env S).bind fun ds S=>(rk env S).bind fun zs S=>if ds.length+1=k then (chk n mi (.loc S.length::(ds++zs)) (S++[.ins cn []])).bind (fun d S'=>match d with
  | .none=>.ok (.loc S.length) S'
  | _=>.stuck) else .stuck:=rfl
@[simp ↓] theorem wq_eMakeK (cn:Str) (n k:Nat) (mi:MF) (r rk:MA) (env:En) (S:Sto) {Q:D→Sto→Prop}:Res.wp (vr cn n k mi r rk env S) Q E=Res.wp ((r env S).bind fun ds S=>(rk env S).bind fun zs S=>if ds.length+1=k then (chk n mi (.loc S.length::(ds++zs)) (S++[.ins cn []])).bind (fun d S'=>match d with
  | .none=>.ok (.loc S.length) S'
  | _=>.stuck) else .stuck) Q E:=rfl
end
end DL
namespace DL
open PySem PySem.Spec PyProof.Rows L2
def qM (cn f:Str) (op:Sto→D→D→Option D) (ma mv:ME):MS:=fun env S=>(ma env S).rs env fun o S=>match o with
  | .loc l=>match S[l]? with
    | some (.ins C fs)=>if C=cn then match fs.lookup f with
        | some a=>(mv env S).rs env fun b S=>match op S a b with
          | some d=>match S[l]? with
            | some (.ins C' fs')=>if C'=cn∧fs'.length<1000 then .next env (S.set l (.ins C' (gt f d fs'))) else .stuck
            | _=>.stuck
          | none=>.stuck
        | none=>.stuck
      else .stuck
    | _=>.stuck
  | _=>.stuck
def qN (op:Sto→D→D→Option D) (mo mi mv:ME):MS:=fun env S=>(mo env S).rs env fun o S=>match o with
  | .loc l=>(mi env S).rs env fun i S=>match fIx S (.loc l) i with
    | some a=>(mv env S).rs env fun b S=>match op S a b with
      | some d=>match bM S (.loc l) i d with
        | some S'=>.next env S'
        | none=>.stuck
      | none=>.stuck
    | none=>.stuck
  | _=>.stuck
def fMax3 (_:Sto) (ds:List D):Option D:=match ds with
  | [.int i,.int j,.int k]=>some (.int (if j>i then (if k>j then k else j) else (if k>i then k else i)))
  | _=>none
@[simp] theorem fMax3_int (S:Sto) (i j k:Int):fMax3 S [.int i,.int j,.int k]=some (.int (max (max i j) k)):=by
  unfold fMax3
  simp only[Option.some.injEq,D.int.injEq]
  split<;>split<;>omega
end DL
namespace DL
open PySem PySem.Spec PyProof.Rows L2
def nq (m:ME):ME:=fun env S=>(m env S).bind fun d S=>match d with
  | .loc l=>match S[l]? with
    | some (.dct false kvs)=>.ok (.lst (kvs.map (·.2))) S
    | _=>.stuck
  | _=>.stuck
end DL
namespace DL
open PySem PySem.Spec PyProof.Rows L2
/-- the unlike ones of the first texts -/
def unl:List Str→List Str
  | []=>[]
  | x::r=>if x∈r then unl r else x::unl r
/-- how many unlike ones stand in the first i -/
def cntU (xs:List Str) (i:Nat):Nat:=(unl (xs.take i).reverse).length
/-- the texts of a list -/
def i3:List D→Option (List Str)
  | []=>some []
  | .str z::r=>(i3 r).map (z::·)
  | _=>none
theorem mL:∀xs:List Str,i3 (xs.map D.str)=some xs
  | []=>rfl
  | x::r=>by rw[List.map_cons,i3,mL r]; rfl
def tw (m:ME):ME:=fun env S=>(m env S).bind fun d S=>match view S d with
  | .lst ds=>match i3 ds with
    | some xs=>if xs.length≤100 then .ok (.int (cntU xs xs.length:Nat)) S else .stuck
    | none=>.stuck
  | _=>.stuck
end DL
namespace DL
open PySem PySem.Spec PyProof.Rows L2
end DL
namespace DL
open PySem PySem.Spec PyProof.Rows L2
def nr (p:D × D):D:=.tup [p.1,p.2]
def iItmD (m:ME):MI:=fun env S=>(m env S).bind fun d S=>match d with
  | .loc l=>match S[l]? with
    | some (.dct true kvs)=>.ok (.items (kvs.map nr)) (S.set l (.fdc true kvs))
    | some (.fdc false kvs)=>.ok (.items (kvs.map nr)) S
    | _=>.stuck
  | _=>.stuck
end DL
namespace DL
open PySem PySem.Spec PyProof.Rows L2
def v8 (cn:Str) (n:Nat) (z:D) (mi:MF) (r:MA):ME:=fun env S=>(r env S).bind fun ds S=>(chk n mi (.loc S.length::(ds++[z])) (S++[.ins cn []])).bind fun d S'=>match d with
  | .none=>.ok (.loc S.length) S'
  | _=>.stuck
end DL
namespace DL
open PySem PySem.Spec PyProof.Rows L2
end DL
namespace DL
open PySem PySem.Spec PyProof.Rows L2 LamX PySem.W
end DL
namespace DL
open PySem PySem.Spec PyProof.Rows L2
def leS (a b:Str):Bool:=!decide (b.cps.toList<a.cps.toList)
def nv (S:Sto) (ds:List D):Option D:=match ds with
  | [.loc l]=>match c4 S[l]? with
    | some (false,kvs)=>match i3 (kvs.map (·.1)) with
      | some ks=>if ks.length<64 then some (.lst ((ks.mergeSort leS).map .str)) else none
      | none=>none
    | _=>none
  | _=>none
@[simp] theorem xy {S:Sto} {l:Nat} {kvs:List (D × D)} {ks:List Str} (h:c4 S[l]?=some (false,kvs)) (hk:kvs.map (·.1)=ks.map D.str) (hl:ks.length<64):nv S [.loc l]=some (.lst ((ks.mergeSort leS).map .str)):=by
  unfold nv
  simp only[h,hk,mL,if_pos hl]
end DL
namespace DL
open PySem PySem.Spec PyProof.Rows L2
def eDictC (r:MA):ME:=fun env S=>(r env S).bind fun ds S=>match ds with
  | [.loc l]=>match c4 S[l]? with
    | some (false,kvs)=>.ok (.loc S.length) (S++[.dct false kvs])
    | _=>.stuck
  | _=>.stuck
variable {Q:D→Sto→Prop} {E:XV→Sto→Prop}
@[simp] theorem eDictC_at (r:MA) (env:En) (S:Sto):eDictC r env S=(r env S).bind fun ds S=>match ds with
  | [.loc l]=>match c4 S[l]? with
    | some (false,kvs)=>.ok (.loc S.length) (S++[.dct false kvs])
    | _=>.stuck
  | _=>.stuck:=rfl
end DL
namespace DL
open PySem PySem.Spec PyProof.Rows L2
end DL
namespace DL
open PySem PySem.Spec PyProof.Rows L2
def eDictL (r:MA):ME:=fun env S=>(r env S).bind fun ds S=>match ds with
  | [.lst xs]=>match eD xs with
    | some ps=>if xs.length≤1000000 then .ok (.loc S.length) (S++[.dct false (dj [] ps)]) else .stuck
    | none=>.stuck
  | _=>.stuck
@[simp] theorem eDictL_at (r:MA) (env:En) (S:Sto):eDictL r env S=(r env S).bind fun ds S=>match ds with
  | [.lst xs]=>match eD xs with
    | some ps=>if xs.length≤1000000 then .ok (.loc S.length) (S++[.dct false (dj [] ps)]) else .stuck
    | none=>.stuck
  | _=>.stuck:=rfl
end DL
namespace DL
open PySem PySem.Spec PyProof.Rows L2
section
variable {N:En→Sto→Prop} {R:D→Sto→Prop} {E:XV→Sto→Prop} {B B2:En→Sto→Prop} {Q:D→Sto→Prop}
@[simp] theorem yg (cn f:Str) (op:Sto→D→D→Option D) (ma mv:ME) (env:En) (S:Sto):qM cn f op ma mv env S=(ma env S).rs env fun o S=>match o with
  | .loc l=>match S[l]? with
    | some (.ins C fs)=>if C=cn then match fs.lookup f with
        | some a=>(mv env S).rs env fun b S=>match op S a b with
          | some d=>match S[l]? with
            | some (.ins C' fs')=>if C'=cn∧fs'.length<1000 then .next env (S.set l (.ins C' (gt f d fs'))) else .stuck
            | _=>.stuck
          | none=>.stuck
        | none=>.stuck
      else .stuck
    | _=>.stuck
  | _=>.stuck:=rfl
@[simp ↓] theorem yh (cn f:Str) (op:Sto→D→D→Option D) (ma mv:ME) (env:En) (S:Sto):RS.wp (qM cn f op ma mv env S) N R E B B2=RS.wp ((ma env S).rs env fun o S=>match o with
  | .loc l=>match S[l]? with
    | some (.ins C fs)=>if C=cn then match fs.lookup f with
        | some a=>(mv env S).rs env fun b S=>match op S a b with
          | some d=>match S[l]? with
            | some (.ins C' fs')=>if C'=cn∧fs'.length<1000 then .next env (S.set l (.ins C' (gt f d fs'))) else .stuck
            | _=>.stuck
          | none=>.stuck
        | none=>.stuck
      else .stuck
    | _=>.stuck
  | _=>.stuck) N R E B B2:=rfl
@[simp] theorem yi (op:Sto→D→D→Option D) (mo mi mv:ME) (env:En) (S:Sto):qN op mo mi mv env S=(mo env S).rs env fun o S=>match o with
  | .loc l=>(mi env S).rs env fun i S=>match fIx S (.loc l) i with
    | some a=>(mv env S).rs env fun b S=>match op S a b with
      | some d=>match bM S (.loc l) i d with
        | some S'=>.next env S'
        | none=>.stuck
      | none=>.stuck
    | none=>.stuck
  | _=>.stuck:=rfl
@[simp ↓] theorem yj (op:Sto→D→D→Option D) (mo mi mv:ME) (env:En) (S:Sto):RS.wp (qN op mo mi mv env S) N R E B B2=RS.wp ((mo env S).rs env fun o S=>match o with
  | .loc l=>(mi env S).rs env fun i S=>match fIx S (.loc l) i with
    | some a=>(mv env S).rs env fun b S=>match op S a b with
      | some d=>match bM S (.loc l) i d with
        | some S'=>.next env S'
        | none=>.stuck
      | none=>.stuck
    | none=>.stuck
  | _=>.stuck) N R E B B2:=rfl
@[simp] theorem xz (m:ME) (env:En) (S:Sto):nq m env S=(m env S).bind fun d S=>match d with
  | .loc l=>match S[l]? with
    | some (.dct false kvs)=>.ok (.lst (kvs.map (·.2))) S
    | _=>.stuck
  | _=>.stuck:=rfl
@[simp ↓] theorem yA (m:ME) (env:En) (S:Sto):Res.wp (nq m env S) Q E=Res.wp ((m env S).bind fun d S=>match d with
  | .loc l=>match S[l]? with
    | some (.dct false kvs)=>.ok (.lst (kvs.map (·.2))) S
    | _=>.stuck
  | _=>.stuck) Q E:=rfl
@[simp] theorem eLenSet_at (m:ME) (env:En) (S:Sto):tw m env S=(m env S).bind fun d S=>match view S d with
  | .lst ds=>match i3 ds with
    | some xs=>if xs.length≤100 then .ok (.int (cntU xs xs.length:Nat)) S else .stuck
    | none=>.stuck
  | _=>.stuck:=rfl
@[simp ↓] theorem wq_eLenSet (m:ME) (env:En) (S:Sto):Res.wp (tw m env S) Q E=Res.wp ((m env S).bind fun d S=>match view S d with
  | .lst ds=>match i3 ds with
    | some xs=>if xs.length≤100 then .ok (.int (cntU xs xs.length:Nat)) S else .stuck
    | none=>.stuck
  | _=>.stuck) Q E:=rfl
@[simp] theorem iItmD_at (m:ME) (env:En) (S:Sto):iItmD m env S=(m env S).bind fun d S=>match d with
  | .loc l=>match S[l]? with
    | some (.dct true kvs)=>.ok (.items (kvs.map nr)) (S.set l (.fdc true kvs))
    | some (.fdc false kvs)=>.ok (.items (kvs.map nr)) S
    | _=>.stuck
  | _=>.stuck:=rfl
@[simp ↓] theorem wq_iItmD (m:ME) (env:En) (S:Sto) {Q:ItD→Sto→Prop}:Res.wp (iItmD m env S) Q E=Res.wp ((m env S).bind fun d S=>match d with
  | .loc l=>match S[l]? with
    | some (.dct true kvs)=>.ok (.items (kvs.map nr)) (S.set l (.fdc true kvs))
    | some (.fdc false kvs)=>.ok (.items (kvs.map nr)) S
    | _=>.stuck
  | _=>.stuck) Q E:=rfl
@[simp] theorem eMakeD_at (cn:Str) (n:Nat) (z:D) (mi:MF) (r:MA) (env:En) (S:Sto):v8 cn n z mi r env S=(r env S).bind fun ds S=>(chk n mi (.loc S.length::(ds++[z])) (S++[.ins cn []])).bind fun d S'=>match d with
  | .none=>.ok (.loc S.length) S'
  | _=>.stuck:=rfl
@[simp ↓] theorem wq_eMakeD (cn:Str) (n:Nat) (z:D) (mi:MF) (r:MA) (env:En) (S:Sto):Res.wp (v8 cn n z mi r env S) Q E=Res.wp ((r env S).bind fun ds S=>(chk n mi (.loc S.length::(ds++[z])) (S++[.ins cn []])).bind fun d S'=>match d with
  | .none=>.ok (.loc S.length) S'
  | _=>.stuck) Q E:=rfl
end
end DL
namespace DL
open PySem PySem.Spec PyProof.Rows L2 LamX
/-- a list,told by itself or as it stands in the store -/
def LV (S:Sto) (v:D) (xs:List D):Prop:=v=.lst xs∨∃l,v=.loc l∧S[l]?=some (.lst xs)
section
variable {S:Sto} {v:D} {xs:List D}
theorem LV.lst:LV S (.lst xs) xs:=.inl rfl
theorem LV.loc {l:Nat} (h:S[l]?=some (.lst xs)):LV S (.loc l) xs:=.inr ⟨l,rfl,h⟩
theorem LV.app (h:LV S v xs) (U:Sto):LV (S++U) v xs:=by
  rcases h with h|⟨l,h,e⟩
  · exact .inl h
  · exact .inr ⟨l,h,by rw[List.getElem?_append_left (List.getElem?_eq_some_iff.mp e).1]; exact e⟩
theorem LV.view0 (h:LV S v xs):view0 S v=.lst xs:=by
  rcases h with rfl|⟨l,rfl,e⟩
  · rfl
  · simp[e]
theorem LV.view (h:LV S v xs):view S v=.lst xs:=by
  unfold DL.view
  rw[h.view0]; rfl
theorem LV.len (h:LV S v xs):cg S [v]=some (.int xs.length):=by
  rcases h with rfl|⟨l,rfl,e⟩
  · rfl
  · exact jY e
theorem LV.ty (h:LV S v xs):g9 S v=some "list":=by
  rcases h with rfl|⟨l,rfl,e⟩
  · rfl
  · simp[g9,e]
end
end DL
namespace DL
open PySem PySem.Spec PyProof.Rows L2
section
variable {X:Cx} {W:WX} {e o:Expr} {es:List Expr} {pos apos:Pos} {k:Nat}
/-- an attribute as a target -/
def gFld (cn g:Str) (mo:ME):MG:=fun v env S=>match mo env S with
  | .ok (.loc l) S1=>match S1[l]? with
    | some (.ins C fs)=>if C=cn∧fs.length<1000 then some (env,S1.set l (.ins C (gt g v fs))) else none
    | _=>none
  | _=>none
end
end DL
namespace DL
open PySem PySem.Spec PyProof.Rows L2
end DL
namespace DL
open PySem PySem.Spec PyProof.Rows L2
end DL
namespace DL
open PySem PySem.Spec PyProof.Rows L2
end DL
namespace DL
open PySem PySem.Spec PyProof.Rows L2
def eKdIn (neg:Bool) (tbl:List (Str × Int)) (m:ME):ME:=fun env S=>(m env S).bind fun d S=>match d with
  | .str x=>.ok (.bool (if neg then !(tbl.map (·.1)).contains x else (tbl.map (·.1)).contains x)) S
  | _=>.stuck
def eKdIx (tbl:List (Str × Int)) (m:ME):ME:=fun env S=>(m env S).bind fun d S=>match d with
  | .str x=>ofO S ((tbl.lookup x).map .int)
  | _=>.stuck
end DL
namespace DL
open PySem PySem.Spec PyProof.Rows L2
def hM:Nat:=2 ^ 64
def hP1:Nat:=11400714785074694791
def hP2:Nat:=14029467366897019727
def hP5:Nat:=2870177450012600261
def hQ2:Nat:=839798700976720815
def hC:Nat:=2870177450013471924
def hRot (x:Nat):Nat:=x*2 ^ 31 % hM+x / 2 ^ 33
def hF (a:Nat):Nat:=hRot ((hP5+a*hP2) % hM)*hP1 % hM
def hG (a:Nat):Nat:=hF a*hQ2 % hM
def hU (a b:Nat):Nat:=(hF a+b*hP2) % hM
def hZ (a b:Nat):Nat:=(hRot (hU a b)*hP1 % hM+hC) % hM
def sF (r:Int × Int):Bool:=decide (0≤r.1)&&decide (r.1<61)&&decide (0≤r.2)&&decide (r.2<10000)
end DL
namespace DL
open PySem PySem.Spec PyProof.Rows L2
/-- dict(d),a copy of a dict of rides -/
def tx (r:MA):ME:=fun env S=>(r env S).bind fun ds S=>match ds with
  | [.loc l]=>match c4 S[l]? with
    | some (true,kvs)=>if (kvs.all fun p=>match p.1 with
      | .tup [.int x,.int y]=>sF (x,y)
      | _=>false)=true then .ok (.loc S.length) (S++[.dct true kvs]) else .stuck
    | _=>.stuck
  | _=>.stuck
@[simp] theorem eDictCT_at (r:MA) (env:En) (S:Sto):tx r env S=(r env S).bind fun ds S=>match ds with
  | [.loc l]=>match c4 S[l]? with
    | some (true,kvs)=>if (kvs.all fun p=>match p.1 with
      | .tup [.int x,.int y]=>sF (x,y)
      | _=>false)=true then .ok (.loc S.length) (S++[.dct true kvs]) else .stuck
    | _=>.stuck
  | _=>.stuck:=rfl
end DL
namespace DL
open PySem PySem.Spec PyProof.Rows L2
section
variable {X:Cx} {W:WX} {e tg iter elt:Expr} {pos:Pos} {g:MG} {m:ME} {mi:MI} {tc:MT} {vs:List Nat}
/-- a turn's reading -/
theorem mM {Z:Res (List D)→Prop} {vs:List Nat} {σ:L2.St} {w:En} {p:Addr} {μ2:Mu} {H2:Hp} {S2:Sto} {d:D} {x:V} {acc:List D} {us:List V} {N:Hp→Prop} {f:List D→Sto→Res (List D)}
    (re:RelE X.K X.mg μ2 H2 w (L2.wipe σ vs)) (rs:RelS X.K X.mg μ2 H2 S2) (hp:H2 p=some (.lst us)) (np:p∈μ2.h) (ra:RepAll X.K X.mg μ2 H2 acc us) (rx:Rep X.K X.mg μ2 H2 d x)
    (hz:¬Z .stuck) (o:Z ((fC g tc m w d acc S2).bindS f))
    (hN:∀μ3 H3 S3 acc' us',StP p μ2 H2 μ3 H3→RelS X.K X.mg μ3 H3 S3→H3 p=some (.lst us')→RepAll X.K X.mg μ3 H3 acc' us'→Z (f acc' S3)→N H3) :
    tGc X vs g x (L2.wipe σ vs) H2 fun σ2 H3=>L2.wipe σ2 vs=L2.wipe σ vs∧tT X W0 tc σ2 H3 fun b H4=>if b=true then tE X W0 m σ2 H4 fun y H5=>∃acc,H5 p=some (.lst acc)∧acc.length<sizeLine∧N (upd H5 p (.lst (acc++[y]))) else N H4:=by
  refine ⟨w,S2,μ2,d,⟨re,rs⟩,rx,?_⟩
  unfold fC at o
  cases hg:g d w S2 with
  | none=>simp only[hg,Res.bindS] at o; exact (hz o).elim
  | some q=>
    obtain ⟨e,Se⟩:=q
    simp only[hg] at o
    intro μ3 H3 σ3 st3 re3 rs3 hw
    refine ⟨hw.trans (e7 vs vs σ fun i hi=>hi),e,Se,μ3,⟨re3,rs3⟩,?_⟩
    have hp3:H3 p=some (.lst us):=st3.hk _ _ np hp
    have np3:p∈μ3.h:=by rw[st3.hid]; exact np
    have ra3:=RepAll.step st3 _ _ ra
    cases htc:tc e Se with
    | exc a b=>simp only[htc,Res.bindS] at o; exact (hz o).elim
    | stuck=>simp only[htc,Res.bindS] at o; exact (hz o).elim
    | ok c S4=>
      simp only[htc,Res.bindS] at o
      intro μ4 H4 b st4 rs4 hb
      subst hb
      have hp4:=st4.hk _ _ np3 hp3
      have np4:p∈μ4.h:=by rw[st4.hid]; exact np3
      have ra4:=RepAll.step st4 _ _ ra3
      cases b with
      | false=>
        simp only[Bool.false_eq_true,if_false] at o ⊢
        exact hN μ4 H4 S4 acc us (.of (st3.trans st4)) rs4 hp4 ra4 o
      | true=>
        simp only[if_true] at o ⊢
        refine ⟨e,S4,μ4,⟨re3.step st4,rs4⟩,?_⟩
        cases hm:m e S4 with
        | exc a b=>simp only[hm,Res.bindS] at o; exact (hz o).elim
        | stuck=>simp only[hm,Res.bindS] at o; exact (hz o).elim
        | ok v S5=>
          simp only[hm,Res.bindS] at o
          intro μ5 H5 y st5 rs5 ry
          have hp5:=st5.hk _ _ np4 hp4
          have np5:p∈μ5.h:=by rw[st5.hid]; exact np4
          have ra5:=RepAll.step st5 _ _ ra4
          by_cases hl:acc.length<1000000
          · simp only[hl,if_true] at o
            have sw:StP p μ5 H5 μ5 (upd H5 p (.lst (us++[y]))):=.write np5 (.of hp5)
            refine ⟨us,hp5,?_,?_⟩
            · rw[←ra.length,sizeLine_eq]; omega
            · exact hN μ5 _ S5 (acc++[v]) (us++[y]) ((StP.of ((st3.trans st4).trans st5)).trans sw) (rs5.write_hid np5) upd_same
                (RepAll.stp sw.toStp _ _ (ra5.append (.cons ry .nil))) o
          · simp only[hl,if_false] at o; exact (hz o).elim
def v9 (g:MG) (tc:MT) (m:ME) (w:En) (it:ItD) (S:Sto):Res (List D):=match it with
  | .items ds=>dE g tc m w ds [] S
  | .live l=>eX g tc m w l (cy S l+1) 0 [] S
  | .liveE l=>g7 g tc m w l (cy S l+1) 0 [] S
theorem yB {F:List D→Sto→Res D} {vs:List Nat} {σ:L2.St} {H:Hp} {Q:VK} {W:WX} {env:En} {S:Sto} {μ:Mu} (rl:Rl X.K X.mg μ H env σ S) (o:Out X.K X.mg W σ μ H (fun μ H a b=>Rep X.K X.mg μ H a b) Q ((fy mi g tc m vs env S).bind F))
    (hfin:∀(μ1:Mu) (H1:Hp) (S1:Sto) (p:Addr) (μ2:Mu) (H2:Hp) (S2:Sto) (acc:List D) (us:List V),RelS X.K X.mg μ1 H1 S1→H1 p=none→StP p (μ1.hide p) (upd H1 p (.lst [])) μ2 H2→RelS X.K X.mg μ2 H2 S2→H2 p=some (.lst us)→RepAll X.K X.mg μ2 H2 acc us→Out X.K X.mg W σ μ1 H1 (fun μ H a b=>Rep X.K X.mg μ H a b) Q (F acc S2)→Q (.ref p) H2) :
    tLc (tI X W mi) (tGc X vs g) (tT X W0 tc) (tE X W0 m) vs σ H Q:=by
  have o2:Out X.K X.mg W σ μ H (fun μ H a b=>Rep X.K X.mg μ H a b) Q ((mi env S).bind fun it S=>(v9 g tc m (ao env vs) it S).bind F):=by
    unfold fy at o
    cases hmi:mi env S with
    | ok a S1=>
      rw[hmi] at o
      cases a<;>exact o
    | exc a S1=>rw[hmi] at o; exact o
    | stuck=>rw[hmi] at o; exact o
  refine ⟨env,S,μ,rl,(Out.bind o2).mono fun J H1 ⟨μ1,S1,it,st,rs,rd,o1⟩ p hp=>?_⟩
  clear o o2
  obtain ⟨Z,hZ⟩:∃Z:Res (List D)→Prop,Z=fun r=>Out X.K X.mg W σ μ1 H1 (fun μ H a b=>Rep X.K X.mg μ H a b) Q (r.bind F):=⟨_,rfl⟩
  have o1:Z (v9 g tc m (ao env vs) it S1):=by rw[hZ]; exact o1
  have rw1:RelE X.K X.mg μ1 H1 (ao env vs) (L2.wipe σ vs):=(rl.env.step st).wipe vs
  generalize ao env vs=w at *
  -- where it begins
  have sh:Stp μ1 H1 (μ1.hide p) (upd H1 p (.lst [])):=.new_hid hp
  have hz:¬Z .stuck:=fun z=>by rw[hZ] at z; exact z
  have fin:∀(μ2:Mu) (H2:Hp) (S2:Sto) (acc:List D) (us:List V),StP p (μ1.hide p) (upd H1 p (.lst [])) μ2 H2→RelS X.K X.mg μ2 H2 S2→H2 p=some (.lst us)→RepAll X.K X.mg μ2 H2 acc us→Z (.ok acc S2)→Q (.ref p) H2:=by
    intro μ2 H2 S2 acc us sp rs2 hp2 ra o
    rw[hZ] at o
    exact hfin μ1 H1 S1 p μ2 H2 S2 acc us rs hp sp rs2 hp2 ra o
  have npm:∀ {μ2:Mu} {H2:Hp},StP p (μ1.hide p) (upd H1 p (.lst [])) μ2 H2→p∈μ2.h:=fun sp=>by rw[sp.hid]; exact List.mem_cons_self
  have st0:StP p (μ1.hide p) (upd H1 p (.lst [])) (μ1.hide p) (upd H1 p (.lst [])):=.of .refl
  cases it with
  | items ds=>
    have rd:dM X.K X.mg μ1 H1 ds J:=rd
    refine ⟨fun i n H=>n+i=ds.length∧∃μ S acc us,StP p (μ1.hide p) (upd H1 p (.lst [])) μ H∧RelS X.K X.mg μ H S∧H p=some (.lst us)∧RepAll X.K X.mg μ H acc us∧Z (dE g tc m w (ds.drop i) acc S),
      ⟨ds.length,rfl,_,S1,[],[],st0,rs.hide hp,upd_same,.nil,o1⟩,?_⟩
    rintro i n H ⟨hn,μ,S,acc,us,sp,rs,hpp,ra,o⟩
    have sb:Stp μ1 H1 μ H:=sh.trans sp.toStp
    by_cases hi:i<ds.length
    · have ed:ds.drop i=ds[i]::ds.drop (i+1):=List.drop_eq_getElem_cons hi
      rw[ed] at o
      unfold dE at o
      refine .inr ⟨rd.goes i μ H hi sb,fun H=>∃μ S acc us,StP p (μ1.hide p) (upd H1 p (.lst [])) μ H∧RelS X.K X.mg μ H S∧H p=some (.lst us)∧RepAll X.K X.mg μ H acc us∧Z (dE g tc m w (ds.drop (i+1)) acc S),fun H' w=>⟨n - 1,by omega,by omega,w⟩,fun x H' y=>?_⟩
      obtain ⟨sm,rx⟩:=rd.yields i _ μ H S x H' (List.getElem?_eq_getElem hi) sb rs y
      have sx:Step μ H μ H':=.of_sm sm
      have spx:=sp.trans (StP.of sx)
      refine mM ((rw1.stp sh).stp spx.toStp) (rs.sm sm) (sm _ _ hpp) (npm spx) (RepAll.step sx _ _ ra) rx hz o fun μ3 H3 S3 acc' us' s3 rs3 hp3 ra3 o3=>⟨μ3,S3,acc',us',spx.trans s3,rs3,hp3,ra3,o3⟩
    · have e:i=ds.length:=by omega
      subst e
      rw[List.drop_length] at o
      exact .inl ⟨rd.stops μ H sb,fin μ H S acc us sp rs hpp ra o⟩
  | live l=>
    obtain ⟨a,ha,rfl⟩:=rd
    refine ⟨fun i n H=>∃μ S acc us,StP p (μ1.hide p) (upd H1 p (.lst [])) μ H∧RelS X.K X.mg μ H S∧H p=some (.lst us)∧RepAll X.K X.mg μ H acc us∧Z (eX g tc m w l n i acc S),
      ⟨_,_,S1,[],[],st0,rs.hide hp,upd_same,.nil,o1⟩,?_⟩
    rintro i n H ⟨μ,S,acc,us,sp,rs,hpp,ra,o⟩
    have sb:Stp μ1 H1 μ H:=sh.trans sp.toStp
    cases n with
    | zero=>exact (hz o).elim
    | succ n=>
      unfold eX at o
      split at o
      · rename_i xs es
        obtain ⟨a',h1,vs',h2,h3⟩:=rs.at_ _ _ es
        rw[sb.get ha] at h1; cases h1
        split at o
        · rename_i hx
          refine .inl ⟨⟨vs',.of h2,?_⟩,fin μ H S acc us sp rs hpp ra o⟩
          rw[←h3.length]
          exact List.getElem?_eq_none_iff.mp hx
        · rename_i d hx
          obtain ⟨v,hv,rv⟩:=h3.get hx
          refine .inr ⟨⟨vs',v,.of h2,hv⟩,fun H=>∃μ S acc us,StP p (μ1.hide p) (upd H1 p (.lst [])) μ H∧RelS X.K X.mg μ H S∧H p=some (.lst us)∧RepAll X.K X.mg μ H acc us∧Z (eX g tc m w l n (i+1) acc S),fun H' w=>⟨n,Nat.lt_succ_self n,w⟩,fun x H' y=>?_⟩
          obtain ⟨rfl,y⟩:=y
          have q:=y vs' (.of h2)
          rw[hv] at q; cases q
          exact mM ((rw1.stp sh).stp sp.toStp) rs hpp (npm sp) ra rv hz o fun μ3 H3 S3 acc' us' s3 rs3 hp3 ra3 o3=>⟨μ3,S3,acc',us',sp.trans s3,rs3,hp3,ra3,o3⟩
      · exact (hz o).elim
  | liveE l=>
    obtain ⟨a,ha,rfl⟩:=rd
    refine ⟨fun i n H=>∃μ S acc us,StP p (μ1.hide p) (upd H1 p (.lst [])) μ H∧RelS X.K X.mg μ H S∧H p=some (.lst us)∧RepAll X.K X.mg μ H acc us∧Z (g7 g tc m w l n i acc S),
      ⟨_,_,S1,[],[],st0,rs.hide hp,upd_same,.nil,o1⟩,?_⟩
    rintro i n H ⟨μ,S,acc,us,sp,rs,hpp,ra,o⟩
    have sb:Stp μ1 H1 μ H:=sh.trans sp.toStp
    cases n with
    | zero=>exact (hz o).elim
    | succ n=>
      unfold g7 at o
      split at o
      · rename_i xs es
        obtain ⟨a',h1,vs',h2,h3⟩:=rs.at_ _ _ es
        rw[sb.get ha] at h1; cases h1
        split at o
        · rename_i hx
          refine .inl ⟨⟨vs',.of h2,?_⟩,fin μ H S acc us sp rs hpp ra o⟩
          rw[←h3.length]
          exact List.getElem?_eq_none_iff.mp hx
        · rename_i d hx
          obtain ⟨v,hv,rv⟩:=h3.get hx
          refine .inr ⟨⟨vs',v,.of h2,hv⟩,fun H=>∃μ S acc us,StP p (μ1.hide p) (upd H1 p (.lst [])) μ H∧RelS X.K X.mg μ H S∧H p=some (.lst us)∧RepAll X.K X.mg μ H acc us∧Z (g7 g tc m w l n (i+1) acc S),fun H' w=>⟨n,Nat.lt_succ_self n,w⟩,fun x H' y=>?_⟩
          obtain ⟨T,z,rfl,hT,rfl,y⟩:=y
          have q:=y vs' (.of h2)
          rw[hv] at q; cases q
          have sm:Sm H (upd H T (.tup [.int (i:Int),v])):=.upd hT
          have sx:Step μ H μ (upd H T (.tup [.int (i:Int),v])):=.of_sm sm
          have rx:Rep X.K X.mg μ (upd H T (.tup [.int (i:Int),v])) (.tup [.int (i:Nat),d]) (.ref T):=bG rs hT (.cons (bB _) (.cons rv .nil))
          have spx:=sp.trans (StP.of sx)
          exact mM ((rw1.stp sh).stp spx.toStp) (rs.sm sm) (sm _ _ hpp) (npm spx) (RepAll.step sx _ _ ra) rx hz o fun μ3 H3 S3 acc' us' s3 rs3 hp3 ra3 o3=>⟨μ3,S3,acc',us',spx.trans s3,rs3,hp3,ra3,o3⟩
      · exact (hz o).elim
end
end DL
namespace DL
open PySem PySem.Spec PyProof.Rows L2
def wA (r:MA):ME:=fun env S=>(r env S).bind fun ds S=>match ds.map (view S) with
  | [.lst ys]=>.ok (.loc S.length) (S++[.lst ys])
  | _=>.stuck
def eCutM (m:ME) (ml mh:MP):ME:=fun env S=>(m env S).bind fun d S=>(ml env S).bind fun lo S=>(mh env S).bind fun hi S=>match view0 S d with
  | .lst xs=>.ok (.loc S.length) (S++[.lst (eF xs lo hi)])
  | _=>.stuck
@[simp] theorem eListM_at (r:MA) (env:En) (S:Sto):wA r env S=(r env S).bind fun ds S=>match ds.map (view S) with
  | [.lst ys]=>.ok (.loc S.length) (S++[.lst ys])
  | _=>.stuck:=rfl
@[simp] theorem eCutM_at (m:ME) (ml mh:MP) (env:En) (S:Sto):eCutM m ml mh env S=(m env S).bind fun d S=>(ml env S).bind fun lo S=>(mh env S).bind fun hi S=>match view0 S d with
  | .lst xs=>.ok (.loc S.length) (S++[.lst (eF xs lo hi)])
  | _=>.stuck:=rfl
end DL
namespace DL
open PySem PySem.Spec PyProof.Rows L2
@[simp] theorem eKdIn_at (neg:Bool) (tbl:List (Str × Int)) (m:ME) (env:En) (S:Sto):eKdIn neg tbl m env S=(m env S).bind fun d S=>match d with
  | .str x=>.ok (.bool (if neg then !(tbl.map (·.1)).contains x else (tbl.map (·.1)).contains x)) S
  | _=>.stuck:=rfl
@[simp] theorem eKdIx_at (tbl:List (Str × Int)) (m:ME) (env:En) (S:Sto):eKdIx tbl m env S=(m env S).bind fun d S=>match d with
  | .str x=>ofO S ((tbl.lookup x).map .int)
  | _=>.stuck:=rfl
end DL
namespace DL
open PySem PySem.Spec PyProof.Rows L2 LamX
section
variable {Q:D→Sto→Prop} {E:XV→Sto→Prop} {N B C:En→Sto→Prop} {R:D→Sto→Prop}
@[simp ↓] theorem wq_eCompX (mi:MI) (g:MG) (m:ME) (vs:List Nat) (env:En) (S:Sto):Res.wp (eCompX mi g m vs env S) Q E=Res.wp ((r8 mi g m vs env S).bind fun ds S=>.ok (.lst ds) S) Q E:=rfl
@[simp] theorem compRX_at (mi:MI) (g:MG) (m:ME) (vs:List Nat) (env:En) (S:Sto):r8 mi g m vs env S=(mi env S).bind fun it S=>match it with
  | .items ds=>j6 g m (ao env vs) ds [] S
  | .live l=>r6 g m (ao env vs) l (cy S l+1) 0 [] S
  | .liveE _=>.stuck:=rfl
@[simp] theorem compIX_nil (g:MG) (m:ME) (w:En) (acc:List D) (S:Sto):j6 g m w [] acc S=.ok acc S:=rfl
@[simp] theorem yl (g:MG) (m:ME) (w:En) (d:D) (ds acc:List D) (S:Sto):j6 g m w (d::ds) acc S=(tj g m w d acc S).bind fun acc S=>j6 g m w ds acc S:=rfl
@[simp] theorem turnX_at (g:MG) (m:ME) (w:En) (d:D) (acc:List D) (S:Sto):tj g m w d acc S=match g d w S with
  | none=>.stuck
  | some p=>(m p.1 p.2).bind fun v S3=>if acc.length<1000000 then .ok (acc++[v]) S3 else .stuck:=rfl
@[simp] theorem gFld_at (cn g:Str) (mo:ME) (v:D) (env:En) (S:Sto):gFld cn g mo v env S=match mo env S with
  | .ok (.loc l) S1=>match S1[l]? with
    | some (.ins C fs)=>if C=cn∧fs.length<1000 then some (env,S1.set l (.ins C (gt g v fs))) else none
    | _=>none
  | _=>none:=rfl
def isRd:D→Bool
  | .tup [.int x,.int y]=>sF (x,y)
  | _=>false
@[simp ↓] theorem wq_eDictCT (r:MA) (env:En) (S:Sto):Res.wp (tx r env S) Q E=Res.wp ((r env S).bind fun ds S=>match ds with
  | [.loc l]=>match c4 S[l]? with
    | some (true,kvs)=>if (kvs.all fun p=>isRd p.1)=true then .ok (.loc S.length) (S++[.dct true kvs]) else .stuck
    | _=>.stuck
  | _=>.stuck) Q E:=rfl
@[simp ↓] theorem wq_eListM (r:MA) (env:En) (S:Sto):Res.wp (wA r env S) Q E=Res.wp ((r env S).bind fun ds S=>match ds.map (view S) with
  | [.lst ys]=>.ok (.loc S.length) (S++[.lst ys])
  | _=>.stuck) Q E:=rfl
@[simp ↓] theorem wq_eCutM (m:ME) (ml mh:MP) (env:En) (S:Sto):Res.wp (eCutM m ml mh env S) Q E=Res.wp ((m env S).bind fun d S=>(ml env S).bind fun lo S=>(mh env S).bind fun hi S=>match view0 S d with
  | .lst xs=>.ok (.loc S.length) (S++[.lst (eF xs lo hi)])
  | _=>.stuck) Q E:=rfl
end
end DL
namespace DL
open PySem PySem.Spec PyProof.Rows L2
end DL
namespace DL
open PySem PySem.Spec PyProof.Rows L2
/-- what a list holds is named -/
def gTupL (n:Nat) (gs:MGs):MG:=fun d env S=>match view0 S d with
  | .lst ds=>if ds.length=n then gs ds env S else none
  | _=>none
@[simp] theorem gTupL_at (n:Nat) (gs:MGs) (d:D) (env:En) (S:Sto):gTupL n gs d env S=match view0 S d with
  | .lst ds=>if ds.length=n then gs ds env S else none
  | _=>none:=rfl
@[simp ↓] theorem wq_eCatM {Q:D→Sto→Prop} {E:XV→Sto→Prop} (ma mb:ME) (env:En) (S:Sto):Res.wp (eCatM ma mb env S) Q E=Res.wp ((ma env S).bind fun a S=>(mb env S).bind fun b S=>match view0 S a,view0 S b with
  | .lst xs,.lst ys=>if xs.length+ys.length≤1000000 then .ok (.loc S.length) (S++[.lst (xs++ys)]) else .stuck
  | _,_=>.stuck) Q E:=rfl
end DL
namespace DL
open PySem PySem.Spec PyProof.Rows L2 LamX
theorem LamHere.blk {X:Cx} {p:Str × Option Str} (lh:LamHere X p) {s:Shared} {H:Hp} {sc:Scope} {cl:List (Str × Addr)} {C:Addr} {fp:List Addr}:LamHere (X.blk s H sc (compEnvC sc cl C X.env) fp) p:=⟨lh.tb,lh.code,lh.mem,lh.uniq⟩
end DL
namespace DL
open PySem PySem.Spec PyProof.Rows L2
open PySem.SeqAt PySem.MeetsSeq PySem.MeetsSeq2 PySem.MeetsSeq3 PySem.SeqRoads2 PySem.AutoSeq1
end DL
namespace DL
open PySem PySem.Spec PyProof.Rows L2
end DL
namespace DL
open PySem PySem.Spec PyProof.Rows L2 LamX
section
variable {X:Cx} {W:WX}
/-- the slot of a lambda's own name,as its default has it -/
def eZ (i:Nat) (m:ME):ME:=fun env S=>m (env.set i (some (.int 0))) S
@[simp] theorem eZ_at (i:Nat) (m:ME) (env:En) (S:Sto):eZ i m env S=m (env.set i (some (.int 0))) S:=rfl
end
end DL
namespace DL
open PySem PySem.Spec PyProof.Rows L2
def zipSD:List D→Option (List D)
  | [.tup xs,.str y]=>some (eQ xs (g4 y))
  | [.lst xs,.str y]=>some (eQ xs (g4 y))
  | _=>none
def iZipS (r:MA):MI:=fun env S=>(r env S).bind fun ds S=>ofO S ((zipSD (ds.map vt)).map .items)
end DL
namespace DL
open PySem PySem.Spec PyProof.Rows
open PySem.Sem (wp)
end DL
namespace DL
open PySem PySem.Spec PyProof.Rows
open PySem.Sem (wp)
end DL
namespace DL
open PySem PySem.Spec PyProof.Rows L2
end DL
namespace DL
open PySem PySem.Spec PyProof.Rows L2
def qO:List D→Option D
  | [.tup xs,.str y]=>some (.lst (eQ xs (g4 y)))
  | _=>none
def wB (r:MA):ME:=fun env S=>(r env S).bind fun ds S=>ofO S (qO (ds.map vt))
@[simp] theorem ym (r:MA) (env:En) (S:Sto):wB r env S=(r env S).bind fun ds S=>ofO S (qO (ds.map vt)):=rfl
@[simp] theorem iZipS_at (r:MA) (env:En) (S:Sto):iZipS r env S=(r env S).bind fun ds S=>ofO S ((zipSD (ds.map vt)).map .items):=rfl
end DL
namespace DL
open PySem PySem.Spec PyProof.Rows L2
section
variable {X:Cx}
/-- what stands in a text's gap -/
def fmD:D→Option D
  | .str y=>if y.length≤16777216 then some (.str y) else none
  | .int i=>if i.natAbs<1000000000 then some (.str (toString i)) else none
  | _=>none
def eFm (m:ME):ME:=fun env S=>(m env S).bind fun d S=>ofO S (fmD d)
def jsM:List ME→Str→En→Sto→Res Str
  | [],acc=>fun _ S=>.ok acc S
  | m::ms,acc=>fun env S=>(m env S).bind fun d S=>match d with
    | .str y=>if (acc++y).length≤16777216 then jsM ms (acc++y) env S else .stuck
    | _=>.stuck
def eJs (ms:List ME):ME:=fun env S=>(jsM ms Str.empty env S).bind fun y S=>.ok (.str y) S
end
@[simp] theorem eFm_at (m:ME) (env:En) (S:Sto):eFm m env S=(m env S).bind fun d S=>ofO S (fmD d):=rfl
@[simp] theorem eJs_at (ms:List ME) (env:En) (S:Sto):eJs ms env S=(jsM ms Str.empty env S).bind fun y S=>.ok (.str y) S:=rfl
@[simp] theorem jsM_nil (acc:Str) (env:En) (S:Sto):jsM [] acc env S=.ok acc S:=rfl
@[simp] theorem jsM_cons (m:ME) (ms:List ME) (acc:Str) (env:En) (S:Sto):jsM (m::ms) acc env S=(m env S).bind fun d S=>match d with
    | .str y=>if (acc++y).length≤16777216 then jsM ms (acc++y) env S else .stuck
    | _=>.stuck:=rfl
end DL
namespace DL
open PySem PySem.Spec PyProof.Rows L2
def wC (tbl:List (Str × Str)) (x:Str) (d:D):D:=match tbl.lookup x with
  | some y=>.str y
  | none=>d
def eKdGet (tbl:List (Str × Str)) (m md:ME):ME:=fun env S=>(m env S).bind fun d S=>(md env S).bind fun d2 S=>match d with
  | .str x=>.ok (wC tbl x d2) S
  | _=>.stuck
@[simp] theorem eKdGet_at (tbl:List (Str × Str)) (m md:ME) (env:En) (S:Sto):eKdGet tbl m md env S=(m env S).bind fun d S=>(md env S).bind fun d2 S=>match d with
  | .str x=>.ok (wC tbl x d2) S
  | _=>.stuck:=rfl
end DL
namespace DL
open PySem PySem.Spec PyProof.Rows L2
def fIntS (_:Sto) (ds:List D):Option D:=match ds with
  | [.str a]=>if a.length≤640 then (PySem.intText? a).map .int else none
  | _=>none
@[simp] theorem fIntS_str (S:Sto) (a:Str):fIntS S [.str a]=if a.length≤640 then (PySem.intText? a).map .int else none:=rfl
end DL
namespace DL
open PySem PySem.Spec PyProof.Rows L2
section
variable {X:Cx} {a b:Expr} {sp pos:Pos} {k:Nat}
/-- a,*b=t -/
def yC (gs:MGs):MG:=fun d env S=>match vt d with
  | .lst (x::xs)=>gs [x,.lst xs] env S
  | _=>none
end
@[simp] theorem yn (gs:MGs) (x:D) (xs:List D) (env:En) (S:Sto):yC gs (.lst (x::xs)) env S=gs [x,.lst xs] env S:=rfl
end DL
namespace DL
open PySem PySem.Spec PyProof.Rows L2
end DL
namespace SN
open PySem PySem.Spec PyProof.Rows L2
/-- from each slot each other one is met -/
def tz (m:Nat):Prop:=∀i j,i≤m→j≤m→∃k,k≤m∧lcgI m i k=j
theorem wD {m:Nat} (all:∀j,j≤m→∃b,b≤m∧lcgN m b=j) (back:lcgN m (m+1)=0):tz m:=by
  have per:∀k,lcgN m (m+1+k)=lcgN m k:=fun k=>by
    induction k with
    | zero=>exact back
    | succ k ih=>
      show (lcgN m (m+1+k)*5+1) % (m+1)=_
      rw[ih]
      rfl
  intro i j hi hj
  obtain ⟨a,la,rfl⟩:=all i hi
  obtain ⟨b,lb,rfl⟩:=all j hj
  by_cases hab:a≤b
  · exact ⟨b - a,by omega,by rw[lcgN_add,show a+(b - a)=b by omega]⟩
  · exact ⟨m+1+b - a,by omega,by rw[lcgN_add,show a+(m+1+b - a)=m+1+b by omega,per]⟩
/-- when each slot of 512 is met -/
def when9:List Nat:=[0,1,326,495,412,365,2,379,376,281,254,327,404,261,58,339,496,305,438,415,140,413,370,43,360,73,366,247,132,309,426,3,480,97,38,335,380,461,226,219,344,377,478,167,372,357,282,179,464,401,150,255,108,509,82,395,328,169,78,87,100,405,138,355,448,193,262,175,348,45,450,59,312,473,190,7,340,453,506,19,432,497,374,95,76,93,306,235,296,265,302,439,68,501,362,195,416,289,486,15,316,141,162,411,280,57,414,359,308,37,218,371,400,81,86,447,44,189,18,75,264,361,14,279,36,85,74,35,384,385,198,367,284,237,386,251,248,153,126,199,276,133,442,211,368,177,310,287,12,285,242,427,232,457,238,119,4,181,298,387,352,481,422,207,252,333,98,91,216,249,350,39,244,229,154,51,336,273,22,127,492,381,466,267,200,41,462,471,484,277,10,227,320,65,134,47,220,429,322,443,184,345,62,391,212,325,378,403,304,369,246,479,460,477,178,107,168,137,174,311,452,373,234,67,288,161,358,399,188,13,34,283,152,441,286,231,180,421,90,243,272,465,470,319,428,61,402,459,136,233,398,151,420,469,458,419,256,257,70,239,156,109,258,123,120,25,510,71,148,5,314,83,240,49,182,159,396,157,114,299,104,329,110,503,388,53,170,259,224,353,294,79,124,205,482,475,88,121,222,423,116,101,26,435,208,145,406,511,364,253,338,139,72,425,334,343,356,149,394,99,192,449,6,431,92,301,194,315,56,217,446,263,84,197,250,275,176,241,118,351,332,349,50,491,40,9,46,183,324,245,106,451,160,33,230,271,60,397,418,155,24,313,158,103,52,293,474,115,144,337,342,191,300,445,274,331,8,105,270,23,292,341,330,291,128,129,454,111,28,493,130,507,504,409,382,455,20,389,186,467,112,433,54,31,268,29,498,171,488,201,494,375,260,437,42,131,96,225,166,463,508,77,354,347,472,505,94,295,500,485,410,307,80,17,278,383,236,125,210,11,456,297,206,215,228,21,266,483,64,321,390,303,476,173,66,187,440,89,318,135,468,69,122,147,48,113,502,223,204,221,434,363,424,393,430,55,196,117,490,323,32,417,102,143,444,269,290,27,408,185,30,487,436,165,346,499,16,209,214,63,172,317,146,203,392,489,142,407,164,213,202,163]
theorem wE:((List.range 512).all fun j=>decide (when9.getD j 0≤511)&&(lcgN 511 (when9.getD j 0) == j))=true:=by decide +kernel
theorem wF:tz 511:=wD (fun j hj=>by
  have h:=List.all_eq_true.mp wE j (List.mem_range.mpr (by omega))
  rw[Bool.and_eq_true,decide_eq_true_eq,beq_iff_eq] at h
  exact ⟨_,h.1,h.2⟩) (by decide +kernel)
theorem j9 {m:Nat} (h:MaskOk m):tz m:=fun i j hi hj=>lcgI_all h hi hj
/-- the masks that come,of sets of at most 306 things -/
structure Mk (m:Nat):Prop where
  cs:m=7∨m=31∨m=127∨m=511
theorem Mk.rd {m:Nat} (h:Mk m):tz m:=by
  rcases h.cs with e|e|e|e
  · exact j9 (.inl e)
  · exact j9 (.inr (.inl e))
  · exact j9 (.inr (.inr e))
  · rw[e]; exact wF
theorem Mk.le {m:Nat} (h:Mk m):m≤511:=by rcases h.cs with e|e|e|e<;>omega
theorem Mk.odd {m:Nat} (h:Mk m):m % 2=1:=by rcases h.cs with e|e|e|e<;>(subst e; rfl)
/-- the run that begins at a slot comes early -/
theorem Mk.run {m:Nat} (h:Mk m) (z:Int) {j:Nat} (hj:j≤m):∃n,n≤12+m∧runI m (SetTable.bits z) n=j:=by
  obtain ⟨k,hk,e⟩:=h.rd _ j (runI_le m (SetTable.bits z) 12) hj
  exact ⟨12+k,by omega,(runI_tail (bits_lt z) k).trans e⟩
/-- the way of a hash through a table -/
abbrev wy (m:Nat) (z:Int):SetTable.Probe:=runAt m (SetTable.bits z % (m+1)) (SetTable.bits z)
theorem Mk.meets {m:Nat} (h:Mk m) (z:Int) {j:Nat} (hj:j≤m):∃k,k<10*SetTable.turns m∧way m z k=j:=by
  obtain ⟨n,hn,e⟩:=h.run z hj
  obtain ⟨k,hk,e2⟩:=run_nth m (SetTable.bits z) n
  refine ⟨k,?_,?_⟩
  · unfold SetTable.turns
    omega
  · show (nth m (wy m z) k).j=j
    rw[e2]
    exact e
theorem sG (m:Nat) (z:Int) (k:Nat):way m z k≤m:=by
  have hi:SetTable.bits z % (m+1)≤m:=by
    have:SetTable.bits z % (m+1)<m+1:=Nat.mod_lt _ (Nat.succ_pos m)
    omega
  have r:=runEnd_bd hi
  have q:=nth_in (m:=m) k (wy m z) (by show SetTable.bits z % (m+1)+(SetTable.runEnd m (SetTable.bits z % (m+1)) - SetTable.bits z % (m+1))≤m; omega)
  show (nth m (wy m z) k).j≤m
  omega
/-- a table in which all are found again from their hashes -/
structure Tb (t:SetTable) (hs:List Int):Prop where
  ris:Ris t.place.toList
  dm:t.dummies=#[]
  sz:t.place.toList.length=hs.length
  mok:Mk t.mask
  bd:∀x∈t.place.toList,x≤t.mask
  rch:∀(i:Nat) (z:Int) (j:Nat),hs[i]?=some z→t.place.toList[i]?=some j→∃k,way t.mask z k=j∧∀k',k'<k→way t.mask z k'∈t.place.toList
section
variable {t:SetTable} {hs:List Int} {z:Int}
/-- the first empty slot -/
theorem Tb.first (T:Tb t hs) (hl:hs.length≤t.mask) (z:Int):∃K,K<10*SetTable.turns t.mask∧way t.mask z K∉t.place.toList∧∀k,k<K→way t.mask z k∈t.place.toList:=by
  obtain ⟨j,hj,hn⟩:=st_missing t.place.toList (t.mask+1) (by have:=T.sz; omega)
  obtain ⟨k,hk,e⟩:=T.mok.meets z (j:=j) (by omega)
  obtain ⟨K,h1,h2,h3⟩:=st_least (p:=fun k=>way t.mask z k∉t.place.toList) k (by rw[e]; exact hn)
  exact ⟨K,by omega,h2,fun k' hk'=>Classical.not_not.mp (h3 k' hk')⟩
theorem Tb.ahead (T:Tb t hs) {K i j:Nat} (hK:way t.mask z K∉t.place.toList) (hi:hs[i]?=some z) (hj:t.place.toList[i]?=some j):∃k,k<K∧way t.mask z k=j:=by
  obtain ⟨k,e,hb⟩:=T.rch i z j hi hj
  refine ⟨k,?_,e⟩
  by_cases hKk:k<K
  · exact hKk
  · by_cases he:K<k
    · exact absurd (hb K he) hK
    · have hk:k=K:=by omega
      subst hk
      rw[e] at hK
      exact absurd (List.mem_of_getElem? hj) hK
/-- one more -/
theorem Tb.put (T:Tb t hs) {K:Nat} (hK:way t.mask z K∉t.place.toList) (hb:∀k,k<K→way t.mask z k∈t.place.toList) {j p:Nat} (hj:j=way t.mask z K) (hp:p=SetTable.below t.place j) :
    (t.put j).2=p∧p≤hs.length∧Tb (t.put j).1 (hs.take p++z::hs.drop p)∧(t.put j).1.mask=t.mask∧(t.put j).1.led=t.led∧(t.put j).1.plain=t.plain∧(t.put j).1.fill=hs.length+1:=by
  obtain ⟨c1,_,_⟩:=below_cut T.ris j
  rw[←hp] at c1
  have pl:p≤t.place.toList.length:=c1
  have ph:p≤hs.length:=by rw[←T.sz]; exact pl
  have hnm:j∉t.place.toList:=by rw[hj]; exact hK
  have hnp:t.place[SetTable.below t.place j]?≠some j:=fun e=>hnm (List.mem_of_getElem? (i:=SetTable.below t.place j) (by rw[Array.getElem?_toList]; exact e))
  have pp:(t.put j).1.place.toList=t.place.toList.take p++j::t.place.toList.drop p:=by rw[hp]; exact put_place t j
  have ln:(t.put j).1.place.toList.length=hs.length+1:=by rw[pp,len_ins _ pl,T.sz]
  have up:∀ {x:Nat},x∈t.place.toList→x∈(t.put j).1.place.toList:=fun hx=>by rw[pp]; exact mem_ins.mpr (.inr hx)
  refine ⟨hp.symm,ph,⟨ris_insert T.ris hnp,put_dm T.dm j,by rw[ln,len_ins _ ph],T.mok,fun x hx=>?_,fun i z' j' h1 h2=>?_⟩,rfl,rfl,rfl,?_⟩
  · rw[pp] at hx
    rcases mem_ins.mp hx with rfl|hx
    · rw[hj]; exact sG _ _ _
    · exact T.bd x hx
  · have fwd:(∃k,way t.mask z' k=j'∧∀k',k'<k→way t.mask z' k'∈t.place.toList)→∃k,way t.mask z' k=j'∧∀k',k'<k→way t.mask z' k'∈(t.put j).1.place.toList:=fun ⟨k,e,f⟩=>⟨k,e,fun k' hk'=>up (f k' hk')⟩
    rw[tins_get hs ph] at h1
    rw[pp,tins_get _ pl] at h2
    by_cases c:i<p
    · rw[if_pos c] at h1 h2
      exact fwd (T.rch i z' j' h1 h2)
    · rw[if_neg c] at h1 h2
      by_cases d:i=p
      · rw[if_pos d] at h1 h2
        cases h1
        cases h2
        exact ⟨K,hj.symm,fun k' hk'=>up (hb k' hk')⟩
      · rw[if_neg d] at h1 h2
        exact fwd (T.rch (i - 1) z' j' h1 h2)
  · show (t.put j).1.place.toList.length+(t.put j).1.dummies.size=_
    rw[ln,put_dm T.dm j]
    rfl
end
section
variable {m:Nat} {owner:Array (Option Nat)} {done:List Int}
theorem Mk.free (h:Mk m) (owner:Array (Option Nat)) (z:Int) {j:Nat} (hj:j≤m) (hf:oAt owner j=none) :
    ∃K,SetTable.layClean.free m owner (SetTable.turns m) (SetTable.bits z % (m+1)) (SetTable.bits z)=some (way m z K)∧oAt owner (way m z K)=none∧∀k,k<K→oAt owner (way m z k)≠none:=by
  obtain ⟨n,hn,e⟩:=h.run z hj
  obtain ⟨o,ho⟩:∃o,o=off m (SetTable.bits z % (m+1)) (SetTable.bits z) n:=⟨_,rfl⟩
  have hw:way m z o=j:=by
    show (nth m (wy m z) o).j=j
    rw[ho,nth_off,itL_run]
    exact e
  obtain ⟨K,k1,k2,k3⟩:=st_least (p:=fun k=>oAt owner (way m z k)=none) o (by rw[hw]; exact hf)
  have occ:∀k,k<K→(oAt owner (nth m (wy m z) k).j).isNone=false:=fun k hk=>by
    have q:=k3 k hk
    cases y:oAt owner (nth m (wy m z) k).j with
    | none=>exact absurd y q
    | some _=>rfl
  exact ⟨K,free_spec m owner (SetTable.turns m) n _ _ K (by unfold SetTable.turns; omega) (by rw[←ho]; exact k1) occ (by rw[show oAt owner (nth m (wy m z) K).j=none from k2]; rfl),k2,k3⟩
theorem wG (h:Mk m) (W:Own m done owner) (hl:done.length≤m) (z:Int) :
    ∃j,SetTable.layClean.free m owner (SetTable.turns m) (SetTable.bits z % (m+1)) (SetTable.bits z)=some j∧Own m (done++[z]) (owner.setIfInBounds j (some done.length)):=by
  obtain ⟨ps,hps,hin⟩:=W.ps
  obtain ⟨f,f1,f2⟩:=st_missing ps (m+1) (by omega)
  have ff:oAt owner f=none:=Classical.byContradiction fun y=>f2 (hin f (by omega) y)
  obtain ⟨K,e1,e2,e3⟩:=h.free owner z (j:=f) (by omega) ff
  obtain ⟨j,hj⟩:∃j,j=way m z K:=⟨_,rfl⟩
  have jm:j≤m:=by rw[hj]; exact sG _ _ _
  rw[←hj] at e1 e2
  have self:=oAt_set_self (owner:=owner) (some done.length) (j:=j) (by rw[W.sz]; omega)
  have some_:∀i,oAt owner i≠none→oAt (owner.setIfInBounds j (some done.length)) i≠none:=fun i hi=>by
    by_cases c:i=j
    · rw[c,self]; simp
    · rw[oAt_set_ne _ c]; exact hi
  refine ⟨j,e1,⟨by rw[Array.size_setIfInBounds]; exact W.sz,fun i k hi e=>?_,fun k hk=>?_,⟨j::ps,by simp[hps],fun i hi e=>?_⟩⟩⟩
  · by_cases c:i=j
    · rw[c,self] at e
      cases e
      exact ⟨z,K,by simp,by rw[c]; exact hj.symm,fun k' hk'=>some_ _ (e3 k' hk')⟩
    · rw[oAt_set_ne _ c] at e
      obtain ⟨z',K',a1,a2,a3⟩:=W.at_ i k hi e
      exact ⟨z',K',by rw[List.getElem?_append_left (List.getElem?_eq_some_iff.mp a1).1]; exact a1,a2,fun k' hk'=>some_ _ (a3 k' hk')⟩
  · rw[List.length_append,List.length_singleton] at hk
    by_cases c:k=done.length
    · exact ⟨j,jm,by rw[self,c]⟩
    · obtain ⟨i,i1,i2⟩:=W.all k (by omega)
      refine ⟨i,i1,?_⟩
      rw[oAt_set_ne _ fun y=>by rw[y,e2] at i2; cases i2]
      exact i2
  · by_cases c:i=j
    · rw[c]; exact List.mem_cons_self
    · rw[oAt_set_ne _ c] at e
      exact List.mem_cons_of_mem _ (hin i hi e)
theorem yD (h:Mk m):∀(rest done:List Int) (owner:Array (Option Nat)),Own m done owner→done.length+rest.length≤m→∃o2,rest.foldl (stepF m) (some (owner,done.length))=some (o2,(done++rest).length)∧Own m (done++rest) o2:=by
  intro rest
  induction rest with
  | nil=>
    intro done owner W _
    rw[List.append_nil]
    exact ⟨owner,rfl,W⟩
  | cons z rest ih=>
    intro done owner W hl
    rw[List.length_cons] at hl
    obtain ⟨j,e,W2⟩:=wG h W (by omega) z
    obtain ⟨o2,f,W3⟩:=ih (done++[z]) _ W2 (by rw[List.length_append,List.length_singleton]; omega)
    rw[List.append_assoc,List.length_append,List.length_singleton] at f
    rw[List.append_assoc] at W3
    refine ⟨o2,?_,W3⟩
    rw[List.foldl_cons,stepF_some e]
    exact f
theorem wH (h:Mk m) {hs:Array Int} (hn:hs.size≤m):∃owner,SetTable.layClean m hs=some owner∧Own m hs.toList owner:=by
  obtain ⟨o2,f,W⟩:=yD h hs.toList [] _ (Own.init m) (by simpa using hn)
  rw[List.nil_append] at f W
  refine ⟨o2,?_,W⟩
  rw[layClean_eq]
  have f:hs.toList.foldl (stepF m) (some (Array.replicate (m+1) none,0))=some (o2,hs.toList.length):=f
  rw[f]
  rfl
end
theorem wI (t:SetTable) {hs:Array Int} {wanted M:Nat} (hw:SetTable.sizeAbove wanted - 1=M) (hM:Mk M) (hn:hs.size≤M) :
    ∃t2 order,t.relaid hs wanted=some (t2,order)∧order.toList.Perm (List.range hs.size)∧Tb t2 (order.toList.map fun i=>hs.getD i 0)∧t2.mask=M∧t2.led=t.led∧t2.plain=t.plain:=by
  obtain ⟨owner,e,W⟩:=wH hM hn
  obtain ⟨lv,hlv⟩:∃lv,lv=liveOf M owner:=⟨_,rfl⟩
  have ml:∀ {j k:Nat},(j,k)∈lv↔j≤M∧oAt owner j=some k:=fun {j k}=>by rw[hlv]; exact mem_live W.sz
  have hr:t.relaid hs wanted=some (tabOf t M owner,(lv.map (·.2)).toArray):=by
    rw[relaid_eq,hw,e,hlv]
    rfl
  have ris:=ris_live (fun j=>owner.getD j none) (List.range (M+1)) (by unfold Ris; exact List.pairwise_lt_range)
  have r1:Ris (lv.map (·.1)):=by rw[hlv]; exact ris.1
  have r2:∀x∈lv.map (·.1),x≤M:=fun x hx=>by
    obtain ⟨⟨y,k⟩,hq,rfl⟩:=List.mem_map.mp hx
    exact (ml.mp hq).1
  have nd:(lv.map (·.1)).Nodup:=r1.imp fun h=>Nat.ne_of_lt h
  have al:∀k,k<hs.size→k∈lv.map (·.2):=fun k hk=>by
    obtain ⟨j,b⟩:=W.all k (by rw[Array.length_toList]; exact hk)
    exact List.mem_map.mpr ⟨(j,k),ml.mpr b,rfl⟩
  have hlen:lv.length=hs.size:=by
    obtain ⟨ps,p1,p2⟩:=W.ps
    have a:=nat_nodup_len (lv.map (·.1)) ps nd fun x hx=>by
      obtain ⟨⟨y,k⟩,hq,rfl⟩:=List.mem_map.mp hx
      exact p2 y (ml.mp hq).1 (by rw[(ml.mp hq).2]; simp)
    have b:=nat_nodup_len (List.range hs.size) (lv.map (·.2)) List.nodup_range fun k hk=>al k (List.mem_range.mp hk)
    rw[List.length_map,p1] at a
    rw[List.length_map,List.length_range] at b
    have c:hs.toList.length=hs.size:=rfl
    omega
  have hpl:(tabOf t M owner).place.toList=lv.map (·.1):=by rw[hlv]; rfl
  refine ⟨tabOf t M owner,(lv.map (·.2)).toArray,hr,perm_range hs.size _ (by rw[←hlen]; simp) (by simpa using al),⟨by rw[hpl]; exact r1,rfl,by rw[hpl]; simp,hM,by rw[hpl]; exact r2,fun i z j h1 h2=>?_⟩,rfl,rfl,rfl⟩
  rw[hpl] at h2 ⊢
  rw[List.getElem?_map] at h2
  obtain ⟨⟨y,k⟩,hq,ej⟩:=Option.map_eq_some_iff.mp h2
  obtain rfl:y=j:=ej
  have h1:((lv.map (·.2)).map fun i=>hs.getD i 0)[i]?=some z:=h1
  rw[List.getElem?_map,List.getElem?_map,hq] at h1
  have ez:hs.getD k 0=z:=Option.some.inj h1
  obtain ⟨b1,b2⟩:=ml.mp (List.mem_of_getElem? hq)
  obtain ⟨z0,K,a1,a2,a3⟩:=W.at_ y k b1 b2
  have e0:hs.getD k 0=z0:=by rw[Array.getD_eq_getD_getElem?,←Array.getElem?_toList,a1]; rfl
  obtain rfl:z0=z:=e0.symm.trans ez
  refine ⟨K,a2,fun k' hk'=>?_⟩
  show way M z0 k'∈lv.map (·.1)
  cases y2:oAt owner (way M z0 k') with
  | none=>exact absurd y2 (a3 k' hk')
  | some k2=>exact List.mem_map.mpr ⟨(way M z0 k',k2),ml.mpr ⟨sG _ _ _,y2⟩,rfl⟩
/-- where a set grows -/
theorem grow4:SetTable.sizeAbove (SetTable.grown 5)=32∧SetTable.sizeAbove (SetTable.grown 19)=128∧SetTable.sizeAbove (SetTable.grown 77)=512:=by decide +kernel
end SN
namespace SN
open PySem PySem.Spec PyProof.Rows L2
/-- numbers only -/
inductive sH:NestedKey→Prop where
  | num (i:Int):sH (.num i)
  | tup {ks:List NestedKey}:(∀k∈ks,sH k)→sH (.tup ks)
section
variable {P:Program} {w:World} {A:Around} {E:Value→Shared→Prop} {s:Shared}
/-- an answer that changes nothing -/
def Says (P:Program) (w:World) (s:Shared) (f:Sem Bool) (b:Bool):Prop:=∀(A:Around) (E:Value→Shared→Prop) (Q:Bool→Shared→Prop),Q b s→wpAny (model P w) A f Q E s
theorem Says.of_eq {f:Sem Bool} {b:Bool} (e:f=pure b):Says P w s f b:=fun A E Q h=>by
  rw[e]
  exact wpAny_pure h
theorem sJ {h:Heap}:∀ {ks:List NestedKey} {vs:List Value},NestedAll h ks vs→∀v∈vs,∃k∈ks,NestedIs h k v
  | _,_,.nil,v,hv=>by cases hv
  | _,_,.cons a r,v,hv=>by
    rcases List.mem_cons.mp hv with rfl|hv
    · exact ⟨_,List.mem_cons_self,a⟩
    · obtain ⟨k,hk,x⟩:=sJ r v hv
      exact ⟨k,List.mem_cons_of_mem _ hk,x⟩
theorem kB:∀ {ks:List NestedKey} {k:NestedKey},k∈ks→k.depth≤NestedKey.depthAll ks
  | [],_,h=>by cases h
  | a::ks,k,h=>by
    unfold NestedKey.depthAll
    rcases List.mem_cons.mp h with rfl|h
    · omega
    · have:=kB h
      omega
theorem wJ:∀(n:Nat) (k:NestedKey) (v:Value),NestedIs s.heap k v→sH k→k.depth≤n→Says P w s (ofAClassStatement n v) false:=by
  intro n
  induction n with
  | zero=>
    intro k v x y hd
    cases y with
    | num i=>cases x<;>exact .of_eq rfl
    | tup hk=>unfold NestedKey.depth at hd; omega
  | succ n ih=>
    intro k v x y hd
    cases y with
    | num i=>cases x<;>exact .of_eq rfl
    | tup hk=>
      rename_i ks
      cases x with
      | tup hg hc hdt hall=>
        rename_i a o vs m
        unfold NestedKey.depth at hd
        intro A E Q h
        have hT:s.TypeIs (.ref a) "tuple":=⟨o,hg,hc⟩
        unfold ofAClassStatement
        refine wpAny_bind (wpAny_typeOf hT ?_)
        dsimp only
        have e:(("tuple":String) == "tuple")=true:=by decide
        simp only[e,if_true,Bool.not_true,Bool.false_eq_true,if_false]
        refine wpAny_bind (wpAny_pure ?_)
        simp only[Bool.not_true,Bool.false_eq_true,if_false]
        refine wpAny_bind (wpAny_seqItems hg hdt ?_)
        dsimp only
        refine wpAny_bind ?_
        show wpAny _ _ (forIn vs _ _) _ _ s
        rw[←Array.forIn_toList]
        refine wpAny_forIn_list _ (fun rest r s'=>(r.1=none∧s'=s)∧∀v∈rest,v∈vs.toList) _ ?_ ?_ _ _ ⟨⟨rfl,rfl⟩,fun v h=>h⟩
        · rintro v rest r s' ⟨⟨hr,rfl⟩,hin⟩
          obtain ⟨k,hk1,hk2⟩:=sJ hall v (hin v List.mem_cons_self)
          refine wpAny_bind (ih k v hk2 (hk k hk1) (by have:=kB hk1; omega) _ _ _ ?_)
          simp only[Bool.false_eq_true,if_false]
          exact wpAny_pure ⟨⟨rfl,rfl⟩,fun u hu=>hin u (List.mem_cons_of_mem _ hu)⟩
        · rintro ⟨r1,r2⟩ s' ⟨⟨hr,rfl⟩,_⟩
          simp only at hr
          subst hr
          exact wpAny_pure h
theorem yE:∀(n:Nat) (k:NestedKey) (v:Value),NestedIs s.heap k v→sH k→k.depth≤n→Says P w s (hashByValue n v) true:=by
  intro n
  induction n with
  | zero=>
    intro k v x y hd
    cases y with
    | num i=>cases x<;>exact .of_eq rfl
    | tup hk=>unfold NestedKey.depth at hd; omega
  | succ n ih=>
    intro k v x y hd
    cases y with
    | num i=>cases x<;>exact .of_eq rfl
    | tup hk=>
      rename_i ks
      cases x with
      | tup hg hc hdt hall=>
        rename_i a o vs m
        unfold NestedKey.depth at hd
        intro A E Q h
        have hT:s.TypeIs (.ref a) "tuple":=⟨o,hg,hc⟩
        unfold hashByValue
        refine wpAny_bind (wpAny_specialOf hT F.slot_tuple_hash.lookup ?_)
        show wpAny _ _ (seqItems? (.ref a) >>= _) _ _ s
        refine wpAny_bind (wpAny_seqItems hg hdt ?_)
        refine wpAny_bind ?_
        show wpAny _ _ (forIn vs _ _) _ _ s
        rw[←Array.forIn_toList]
        refine wpAny_forIn_list _ (fun rest r s'=>(r.1=none∧s'=s)∧∀v∈rest,v∈vs.toList) _ ?_ ?_ _ _ ⟨⟨rfl,rfl⟩,fun v h=>h⟩
        · rintro v rest r s' ⟨⟨hr,rfl⟩,hin⟩
          obtain ⟨k,hk1,hk2⟩:=sJ hall v (hin v List.mem_cons_self)
          refine wpAny_bind (ih k v hk2 (hk k hk1) (by have:=kB hk1; omega) _ _ _ ?_)
          simp only[Bool.not_true,Bool.false_eq_true,if_false]
          exact wpAny_pure ⟨⟨rfl,rfl⟩,fun u hu=>hin u (List.mem_cons_of_mem _ hu)⟩
        · rintro ⟨r1,r2⟩ s' ⟨⟨hr,rfl⟩,_⟩
          simp only at hr
          subst hr
          exact wpAny_pure h
/-- the tuple at a is the key k -/
structure IsN (h:Heap) (k:NestedKey) (a:Addr):Prop where
  is:NestedIs h k (.ref a)
  dp:k.depth≤8
  nu:sH k
theorem IsN.kind {h:Heap} {k:NestedKey} {a:Addr} (x:IsN h k a):(nestedKind P w).is h k a:=⟨x.is,x.dp⟩
theorem IsN.step {h h':Heap} {k:NestedKey} {a:Addr} (x:IsN h k a) (hk:∀a o vs n,h.get? a=some o→o.data=.seq vs n→h'.get? a=some o):IsN h' k a:=⟨NestedIs.at hk k _ x.is,x.dp,x.nu⟩
theorem IsN.more {h h':Heap} {k:NestedKey} {a:Addr} (x:IsN h k a) (hk:∀c o,h.get? c=some o→h'.get? c=some o):IsN h' k a:=x.step fun a o _ _ e _=>hk a o e
theorem IsN.beside {h h':Heap} {k:NestedKey} {a b:Addr} {o:Obj} {es:Array (Int × Value)} {ep:Nat} {t:SetTable} (x:IsN h k b) (ho:h.get? a=some o) (hd:o.data=.set es ep t) (hs:Heap.SameBut a h h'):IsN h' k b:=
  x.step fun c o' vs n e d=>(hs.2 c fun z=>by
    rw[z,ho] at e
    cases e
    rw[hd] at d
    cases d).trans e
/-- a search among such tuples shows nothing -/
theorem unseen {k:NestedKey} {b:Addr} (x:IsN s.heap k b) {ys:List Value} (hy:∀y∈ys,∃k' c,y=Value.ref c∧IsN s.heap k' c):Says P w s (searchCouldBeSeen (.ref b) ys) false:=by
  intro A E Q h
  unfold searchCouldBeSeen
  refine wpAny_bind ?_
  refine wpAny_forIn_list _ (fun rest r s'=>(r.1=none∧s'=s)∧∀y∈rest,∃k' c,y=Value.ref c∧IsN s.heap k' c) _ ?_ ?_ _ _ ⟨⟨rfl,rfl⟩,hy⟩
  · rintro v rest r s' ⟨⟨hr,rfl⟩,hin⟩
    obtain ⟨k',c,rfl,z⟩:=hin v List.mem_cons_self
    have more:∀y∈rest,∃k' c,y=Value.ref c∧IsN s'.heap k' c:=fun u hu=>hin u (List.mem_cons_of_mem _ hu)
    dsimp only
    by_cases hv:(b == c||(carriedByValue (.ref b)&&carriedByValue (.ref c)))=true
    · exact wp_if_pos hv (wpAny_pure ⟨⟨rfl,rfl⟩,more⟩)
    · refine wp_if_neg hv (wpAny_bind ((nestedKind P w).quiet x.kind ?_))
      simp only[Bool.not_true,Bool.false_eq_true,if_false]
      refine wpAny_bind ((nestedKind P w).quiet z.kind ?_)
      simp only[Bool.not_true,Bool.false_eq_true,if_false]
      refine wpAny_bind (wJ 8 k _ x.is x.nu x.dp _ _ _ ?_)
      simp only[Bool.false_eq_true,if_false]
      refine wpAny_bind (wJ 8 k' _ z.is z.nu z.dp _ _ _ ?_)
      simp only[Bool.false_eq_true,if_false]
      exact wpAny_pure ⟨⟨rfl,rfl⟩,more⟩
  · rintro ⟨r1,r2⟩ s' ⟨⟨hr,rfl⟩,_⟩
    simp only at hr
    subst hr
    exact wpAny_pure h
abbrev El:=Addr × NestedKey
def hsN (w:World) (L:List El):List Int:=L.map fun p=>p.2.hash w
def rwN (w:World) (L:List El):List (Int × Value):=L.map fun p=>(p.2.hash w,Value.ref p.1)
structure SetN (w:World) (h:Heap) (a:Addr) (L:List El) (es:Array (Int × Value)) (ep:Nat) (t:SetTable):Prop where
  ob:∃o,h.get? a=some o∧o.ExactSet∧o.data=.set es ep t
  rows:es.toList=rwN w L
  tab:Tb t (hsN w L)
  nd:(L.map (·.2)).Nodup
  el:∀p∈L,IsN h p.2 p.1
  plain:t.plain=true
  led:w.params.followText "set-order"=true∨t.led=true
  room:L.length*5<t.mask*3
  few:L.length≤306
variable {a:Addr} {L:List El} {es:Array (Int × Value)} {ep:Nat} {t:SetTable}
theorem cp {es:Array (Int × Value)} {L:List El} (h:es.toList=rwN w L):es.size=L.length:=by
  have e:=congrArg List.length h
  unfold rwN at e
  rw[List.length_map] at e
  exact e
theorem lQ {es:Array (Int × Value)} {L:List El} (h:es.toList=rwN w L) {i:Nat} {p:El} (hp:L[i]?=some p):es[i]?=some (p.2.hash w,Value.ref p.1):=by
  rw[←Array.getElem?_toList,h]
  unfold rwN
  rw[List.getElem?_map,hp]
  rfl
theorem Tb.len {hs:List Int} (T:Tb t hs):t.place.size=hs.length:=T.sz
theorem t9 {hs:List Int} (T:Tb t hs) {n:Nat} (hn:n=hs.length) (hl:n≤t.mask):t.fits n=true:=by
  have h1:=T.len
  unfold SetTable.fits SetTable.fill
  rw[T.dm,Bool.and_eq_true,beq_iff_eq,decide_eq_true_eq]
  show t.place.size=n∧t.place.size+0≤t.mask
  omega
theorem SetN.fits (R:SetN w s.heap a L es ep t):t.fits es.size=true:=by
  have h1:=cp R.rows
  have h2:=R.room
  exact t9 R.tab (by rw[h1]; unfold hsN; rw[List.length_map]) (by omega)
theorem SetN.safe (R:SetN w s.heap a L es ep t):¬t.gaveWay=true:=by
  unfold SetTable.gaveWay
  rw[R.tab.mok.odd]
  decide
theorem qP (m:Nat):∀(n:Nat) (p:SetTable.Probe),p.dummy=none→(nth m p n).dummy=none
  | 0,_,h=>h
  | n+1,p,h=>qP m n (adv m p) (by
    unfold adv
    split
    · exact h
    · exact h)
/-- from the c-th step of the way on -/
theorem uZ (R:SetN w s.heap a L es ep t) {x:Addr} {k:NestedKey} {z:Int} (hz:z=k.hash w) (hx:IsN s.heap k x) (hu:A.units+8<cLine) {K:Nat} (hKf:K<10*SetTable.turns t.mask)
    (hK:way t.mask z K∉t.place.toList) (hKb:∀c,c<K→way t.mask z c∈t.place.toList) {Q:SetFound→Shared→Prop} (yes:k∈L.map (·.2)→Q (.there none) s) (no:k∉L.map (·.2)→Q (.free (way t.mask z K) false) s) :
    ∀(f c:Nat) (st:Option SetTable.Probe),st.getD (t.probeStart z)=nth t.mask (wy t.mask z) c→c≤K→K - c<f→
      (∀(i:Nat) (p:El),L[i]?=some p→p.2=k→∃d,c≤d∧d<K∧t.place.toList[i]?=some (way t.mask z d))→wpAny (model P w) A (setSearchFrom a (.ref x) z true f st) Q E s:=by
  obtain ⟨o,ho,hex,hd⟩:=R.ob
  have hash_i:∀(i:Nat) (p:El),L[i]?=some p→(es[i]?.map (·.1)).getD 0=p.2.hash w:=fun i p hp=>by rw[lQ R.rows hp]; rfl
  have ln:t.place.toList.length=L.length:=by
    have:=R.tab.sz
    unfold hsN at this
    rw[List.length_map] at this
    exact this
  intro f
  induction f with
  | zero=>intro c st _ _ hf; omega
  | succ f ih=>
    intro c st hst hc hf hre
    obtain ⟨q0,hq0⟩:∃q0,q0=nth t.mask (wy t.mask z) c:=⟨_,rfl⟩
    have at_:∀q,(nth t.mask q0 q).j=way t.mask z (c+q):=fun q=>by
      rw[hq0,←nth_add]
    have spec:=go_spec t R.tab.ris R.tab.dm (fun i=>(es[i]?.map (·.1)).getD 0) z (10*SetTable.turns t.mask) (K - c) q0 (by rw[hq0]; exact qP _ _ _ rfl) (by omega) (fun q hq=>by rw[at_]; exact hKb _ (by omega)) (by rw[at_,show c+(K - c)=K by omega]; exact hK)
    rw[setSearchFrom_succ]
    refine wpAny_bind (wpAny_setState_of ho hd R.fits ?_)
    dsimp only
    refine wp_if_neg R.safe ?_
    refine wpAny_bind (wpAny_pure ?_)
    rw[hst,←hq0]
    rcases spec with ⟨q,i,hq,hi,hh,hno,hpr⟩|⟨hno,hpr⟩
    · have hpr:t.probe (fun i=>(es[i]?.map (·.1)).getD 0) z q0=_:=hpr
      rw[hpr]
      dsimp only
      rw[at_] at hi
      have hil:i<L.length:=by rw[←ln]; exact (List.getElem?_eq_some_iff.mp hi).1
      obtain ⟨p,hp⟩:∃p,L[i]?=some p:=⟨_,List.getElem?_eq_getElem hil⟩
      have pm:p∈L:=List.mem_of_getElem? hp
      have rest:wpAny (model P w) A (searchRest a (.ref x) z true f es t (nth t.mask q0 q).j i (nth t.mask q0 (q+1))) Q E s:=by
        unfold searchRest
        rw[lQ R.rows hp]
        dsimp only
        refine wpAny_bind (wpAny_holding ((nestedKind P w).eqBool hu (R.el p pm).kind hx.kind ?_))
        refine wpAny_bind (wpAny_setState_of ho hd R.fits ?_)
        dsimp only
        by_cases hkk:p.2=k
        · exact wp_if_pos (by simp[hkk]) (wpAny_pure (yes (List.mem_map.mpr ⟨p,pm,hkk⟩)))
        · refine wp_if_neg (by simp[hkk]) ?_
          refine wpAny_bind (wpAny_pure ?_)
          rw[sameMem]
          dsimp only
          have hsl:t.slot (way t.mask z (c+q))=.live i:=slot_live R.tab.ris hi
          simp only[if_true,at_,hsl,lQ R.rows hp]
          refine wpAny_bind (wpAny_isSame_ref_self (wpAny_bind (wpAny_pure ?_)))
          simp only[if_true]
          refine wp_if_neg (by simp[hkk]) ?_
          refine ih (c+(q+1)) _ (by rw[Option.getD_some,hq0,←nth_add]) (by omega) (by omega) fun i2 p2 h2 hk2=>?_
          obtain ⟨d,d1,d2,d3⟩:=hre i2 p2 h2 hk2
          refine ⟨d,?_,d2,d3⟩
          by_cases hlt:d<c+q
          · refine absurd ((hash_i i2 p2 h2).trans (by rw[hk2,hz])) (hno (d - c) i2 (by omega) ?_)
            rw[at_,show c+(d - c)=d by omega]
            exact d3
          · by_cases he:d=c+q
            · rw[he] at d3
              have s2:=slot_live R.tab.ris d3
              rw[hsl] at s2
              injection s2 with s2
              rw[←s2,hp] at h2
              cases h2
              exact absurd hk2 hkk
            · omega
      by_cases hl:t.led=true
      · refine wp_if_neg (by simp[hl]) ?_
        refine wpAny_bind (wpAny_pure ?_)
        exact rest
      · refine wp_if_pos (by simp[hl]) ?_
        refine wpAny_bind (unseen hx (fun y hy=>?_) _ _ _ ?_)
        · obtain ⟨e,he,rfl⟩:=List.mem_map.mp hy
          have he2:e∈es.toList:=by
            have:e∈es∧e.1=z:=by simpa using he
            simpa using this.1
          rw[R.rows] at he2
          obtain ⟨p2,hp2,rfl⟩:=List.mem_map.mp he2
          exact ⟨p2.2,p2.1,rfl,R.el p2 hp2⟩
        · refine wp_if_neg (by decide) ?_
          refine wpAny_bind (wpAny_pure ?_)
          exact rest
    · have hpr:t.probe (fun i=>(es[i]?.map (·.1)).getD 0) z q0=_:=hpr
      rw[hpr,at_,show c+(K - c)=K by omega]
      dsimp only
      refine wpAny_pure (no fun hm=>?_)
      obtain ⟨p2,h2,hk2⟩:=List.mem_map.mp hm
      obtain ⟨i2,hi2,e2⟩:=List.getElem_of_mem h2
      have h2:L[i2]?=some p2:=by rw[List.getElem?_eq_getElem hi2,e2]
      obtain ⟨d,d1,d2,d3⟩:=hre i2 p2 h2 hk2
      refine hno (d - c) i2 (by omega) ?_ ((hash_i i2 p2 h2).trans (by rw[hk2,hz]))
      rw[at_,show c+(d - c)=d by omega]
      exact d3
/-- what adding asks -/
theorem look (R:SetN w s.heap a L es ep t) {x:Addr} {k:NestedKey} {z:Int} (hz:z=k.hash w) (hx:IsN s.heap k x) (hu:A.units+8<cLine) {Q:SetFound→Shared→Prop} (yes:k∈L.map (·.2)→Q (.there none) s)
    (no:∀K,k∉L.map (·.2)→way t.mask z K∉t.place.toList→(∀c,c<K→way t.mask z c∈t.place.toList)→Q (.free (way t.mask z K) false) s):wpAny (model P w) A (setSearch a (.ref x) z true) Q E s:=by
  have hroom:=R.room
  have hle:=R.tab.mok.le
  obtain ⟨K,hKf,hK,hKb⟩:=R.tab.first (by unfold hsN; rw[List.length_map]; omega) z
  have ht:10*SetTable.turns t.mask≤99999:=by
    unfold SetTable.turns
    omega
  unfold setSearch
  refine uZ R hz hx hu hKf hK hKb yes (fun hn=>no K hn hK hKb) 100000 0 none rfl (Nat.zero_le _) (by omega) fun i p hp hk=>?_
  have hi:(hsN w L)[i]?=some z:=by
    unfold hsN
    rw[List.getElem?_map,hp,hz,←hk]
    rfl
  have hil:i<t.place.toList.length:=by
    rw[R.tab.sz]
    exact (List.getElem?_eq_some_iff.mp hi).1
  have hj:=List.getElem?_eq_getElem hil
  obtain ⟨d,hd,e⟩:=R.tab.ahead hK hi hj
  exact ⟨d,Nat.zero_le _,hd,by rw[hj,e]⟩
end
end SN
namespace SN
open PySem PySem.Spec PyProof.Rows L2
section
variable {P:Program} {w:World} {A:Around} {E:Value→Shared→Prop} {s:Shared} {a:Addr} {L:List El} {es:Array (Int × Value)} {ep:Nat} {t:SetTable}
theorem ua (order:Array Nat) (hr:es.toList=rwN w L) (hp:order.toList.Perm (List.range L.length)) :
    ∃L2,(order.filterMap (es[·]?)).toList=rwN w L2∧L2.Perm L∧hsN w L2=order.toList.map fun i=>(es.map (·.1)).getD i 0:=by
  have sz:=cp hr
  have at_:∀i,(h:i<L.length)→es[i]?=some (L[i].2.hash w,Value.ref L[i].1):=fun i h=>lQ hr (List.getElem?_eq_getElem h)
  have run:∀l:List Nat,(∀i∈l,i<L.length)→l.filterMap (fun i=>es[i]?)=rwN w (l.filterMap fun i=>L[i]?)∧hsN w (l.filterMap fun i=>L[i]?)=l.map fun i=>(es.map (·.1)).getD i 0:=by
    intro l
    induction l with
    | nil=>intro _; exact ⟨rfl,rfl⟩
    | cons i l ih=>
      intro hl
      have hi:=hl i List.mem_cons_self
      obtain ⟨e1,e2⟩:=ih fun j hj=>hl j (List.mem_cons_of_mem _ hj)
      have g:(es.map (·.1)).getD i 0=L[i].2.hash w:=by
        have:(es.map (·.1))[i]?=some (L[i].2.hash w):=by rw[Array.getElem?_map,at_ i hi]; rfl
        simp[Array.getD_eq_getD_getElem?,this]
      rw[List.filterMap_cons_some (at_ i hi),List.filterMap_cons_some (List.getElem?_eq_getElem hi),e1]
      refine ⟨rfl,?_⟩
      rw[List.map_cons,g,←e2]
      rfl
  obtain ⟨e1,e2⟩:=run order.toList fun i hi=>List.mem_range.mp (hp.mem_iff.mp hi)
  refine ⟨_,by rw[Array.toList_filterMap]; exact e1,?_,e2⟩
  have all:∀n,n≤L.length→(List.range n).filterMap (fun i=>L[i]?)=L.take n:=by
    intro n
    induction n with
    | zero=>intro _; rfl
    | succ n ih=>
      intro hn
      rw[List.range_succ,List.filterMap_append,ih (by omega),List.take_add_one,List.getElem?_eq_getElem (show n<L.length from hn),List.filterMap_cons_some (List.getElem?_eq_getElem (show n<L.length from hn))]
      rfl
  have h:=hp.filterMap fun i=>L[i]?
  rw[all L.length (Nat.le_refl _),List.take_length] at h
  exact h
/-- laid anew -/
theorem relay {o:Obj} (ho:s.heap.get? a=some o) (hex:o.ExactSet) (hd:o.data=.set es ep t) (hrows:es.toList=rwN w L) (T:Tb t (hsN w L)) (hfl:L.length≤t.mask) (nd:(L.map (·.2)).Nodup) (el:∀p∈L,IsN s.heap p.2 p.1) (pl:t.plain=true)
    (ld:w.params.followText "set-order"=true∨t.led=true) (few:L.length≤306) {wanted M:Nat} (hw:SetTable.sizeAbove wanted=M+1) (hM:Mk M) (hn:L.length*5<M*3) {Q:Unit→Shared→Prop}
    (hQ:∀h' L' es' ep' t',Heap.SameBut a s.heap h'→SetN w h' a L' es' ep' t'→L'.Perm L→Q () { s with heap:=h' }):wpAny (model P w) A (setRelay a wanted) Q E s:=by
  have sl:=cp hrows
  have hMl:=hM.le
  obtain ⟨t2,order,e,hp,T2,em,el2,ep2⟩:=wI t (hs:=es.map (·.1)) (wanted:=wanted) (M:=M) (by rw[hw]; rfl) hM (by rw[Array.size_map,sl]; omega)
  rw[Array.size_map,sl] at hp
  obtain ⟨L2,r1,r2,r3⟩:=ua (w:=w) order hrows hp
  rw[←r3] at T2
  have s2:=cp r1
  rw[setRelay_eq]
  refine wpAny_bind (wpAny_setState_of ho hd (t9 T (by rw[sl]; unfold hsN; rw[List.length_map]) (by omega)) ?_)
  dsimp only
  refine wp_if_neg (by rw[sizeLine_eq,hw]; omega) ?_
  rw[e]
  dsimp only
  refine wpAny_bind ?_
  refine wp_if_neg (by rw[s2,r2.length_eq,sl]; simp) ?_
  refine wpAny_pure ?_
  dsimp only
  refine wpAny_storeSet_of ho hd ?_ (by rw[s2,r2.length_eq,sizeLine_eq]; omega)
  have sb:Heap.SameBut a s.heap (s.heap.update a (Obj.putSet (order.filterMap (es[·]?)) t2)):=Heap.SameBut.update ..
  exact hQ _ L2 _ (ep+1) t2 sb ⟨⟨_,store_at ho hd,⟨hex.1,hex.2.1,hex.2.2⟩,rfl⟩,r1,T2,(r2.map (·.2)).nodup_iff.mpr nd,fun p hpm=>(el p (r2.mem_iff.mp hpm)).beside ho hd sb,by rw[ep2]; exact pl,by rw[el2]; exact ld,by rw[r2.length_eq,em]; exact hn,by rw[r2.length_eq]; exact few⟩ r2
/-- one added -/
theorem add (R:SetN w s.heap a L es ep t) {x:Addr} {k:NestedKey} {z:Int} (hz:z=k.hash w) (hx:IsN s.heap k x) (hu:A.units+8<cLine) (few:L.length+1≤306) {Q:Bool→Shared→Prop}
    (hQ:∀b h' L' es' ep' t',Heap.SameBut a s.heap h'→SetN w h' a L' es' ep' t'→(k∈L.map (·.2)→L'=L)→(k∉L.map (·.2)→L'.Perm ((x,k)::L))→Q b { s with heap:=h' }):wpAny (model P w) A (setAddHashed a (.ref x) z) Q E s:=by
  obtain ⟨o,ho,hex,hd⟩:=R.ob
  have sl:=cp R.rows
  have hroom:=R.room
  unfold setAddHashed
  refine wpAny_holding ?_
  rw[show (100000:Nat)=99999+1 from rfl,setAddHashedIn_succ]
  refine wpAny_bind (wpAny_setState_of ho hd R.fits ?_)
  dsimp only
  refine wp_if_neg (by simp[byScan,Value.scannable]) ?_
  refine wpAny_bind (look R hz hx hu (fun hm=>?_) fun K hm hK hb=>?_)
  · dsimp only
    exact wpAny_pure (hQ false s.heap L es ep t (Heap.SameBut.refl a s.heap) R (fun _=>rfl) fun h=>absurd hm h)
  · dsimp only
    refine wpAny_bind (wpAny_setState_of ho hd R.fits ?_)
    dsimp only
    obtain ⟨j,hj⟩:∃j,j=way t.mask z K:=⟨_,rfl⟩
    obtain ⟨p,hp⟩:∃p,p=SetTable.below t.place j:=⟨_,rfl⟩
    obtain ⟨q1,q2,q3,q4,q5,q6,q7⟩:=R.tab.put hK hb hj hp
    rw[←hj]
    have pl1:(t.put j).1.plain=true:=by rw[q6]; exact R.plain
    have ld1:w.params.followText "set-order"=true∨(t.put j).1.led=true:=by rw[q5]; exact R.led
    generalize t.put j=pt at q1 q3 q4 q5 q6 q7 pl1 ld1 ⊢
    obtain ⟨t1,p2⟩:=pt
    dsimp only at q1 q3 q4 q5 q6 q7 pl1 ld1 ⊢
    subst q1
    unfold hsN at q2
    rw[List.length_map] at q2
    refine wp_if_pos pl1 ?_
    refine wpAny_bind (yE 8 k _ hx.is hx.nu hx.dp _ _ _ ?_)
    simp only[if_true]
    obtain ⟨L1,hL1⟩:∃L1,L1=L.take p2++(x,k)::L.drop p2:=⟨_,rfl⟩
    have pm:L1.Perm ((x,k)::L):=by rw[hL1]; exact put_perm L p2 (x,k)
    have ln:L1.length=L.length+1:=pm.length_eq
    have rows1:(SetTable.insertAt es p2 (z,Value.ref x)).toList=rwN w L1:=by
      rw[SetTable.toList_insertAt,R.rows,hL1,hz]
      unfold rwN
      rw[List.map_append,List.map_cons,List.map_take,List.map_drop]
    have hsh:(hsN w L).take p2++z::(hsN w L).drop p2=hsN w L1:=by
      rw[hL1,hz]
      unfold hsN
      rw[List.map_append,List.map_cons,List.map_take,List.map_drop]
    rw[hsh] at q3
    have nd1:(L1.map (·.2)).Nodup:=(pm.map (·.2)).nodup_iff.mpr (List.nodup_cons.mpr ⟨hm,R.nd⟩)
    generalize SetTable.insertAt es p2 (z,Value.ref x)=es1 at rows1 ⊢
    have sl1:=cp rows1
    refine wpAny_bind (wpAny_storeSet_of ho hd ?_ (by rw[sl1,ln,sizeLine_eq]; omega))
    have sb:Heap.SameBut a s.heap (s.heap.update a (Obj.putSet es1 t1)):=Heap.SameBut.update ..
    have ho1:=store_at (es':=es1) (t':=t1) ho hd
    generalize s.heap.update a (Obj.putSet es1 t1)=h1 at sb ho1 ⊢
    have el1:∀p∈L1,IsN h1 p.2 p.1:=fun p hp=>by
      rcases List.mem_cons.mp (pm.mem_iff.mp hp) with rfl|hp
      · exact hx.beside ho hd sb
      · exact (R.el p hp).beside ho hd sb
    have fill1:t1.fill=L.length+1:=by
      rw[q7]
      unfold hsN
      rw[List.length_map]
    by_cases hf:t1.tooFull=true
    · refine wp_if_pos (by simp[hf]) ?_
      refine wpAny_bind ?_
      have full:(L.length+1)*5≥t1.mask*3:=by
        unfold SetTable.tooFull at hf
        rw[decide_eq_true_eq,fill1] at hf
        exact hf
      rw[sl]
      have go:∀M,SetTable.sizeAbove (SetTable.grown (L.length+1))=M+1→Mk M→(L.length+1)*5<M*3→wpAny (model P w) A (setRelay a (SetTable.grown (L.length+1))) (fun _ s'=>wpAny (model P w) A (pure true) Q E s') E { s with heap:=h1 }:=fun M g1 g2 g3=>by
        refine relay (s:={ s with heap:=h1 }) ho1 ⟨hex.1,hex.2.1,hex.2.2⟩ rfl rows1 q3 (by rw[ln,q4]; have:=R.tab.mok.cs; omega) nd1 el1 pl1 ld1 (by omega) g1 g2 (by rw[ln]; exact g3) ?_
        intro h2 L2 es2 ep2 t2 sb2 R2 pm2
        exact wpAny_pure (hQ true h2 L2 es2 ep2 t2 (sb.trans sb2) R2 (fun h=>absurd h hm) fun _=>pm2.trans pm)
      have G:=grow4
      rw[q4] at full
      rcases R.tab.mok.cs with e|e|e|e
      · have e2:L.length=4:=by omega
        exact go 31 (by rw[e2]; exact G.1) ⟨.inr (.inl rfl)⟩ (by omega)
      · have e2:L.length=18:=by omega
        exact go 127 (by rw[e2]; exact G.2.1) ⟨.inr (.inr (.inl rfl))⟩ (by omega)
      · have e2:L.length=76:=by omega
        exact go 511 (by rw[e2]; exact G.2.2) ⟨.inr (.inr (.inr rfl))⟩ (by omega)
      · omega
    · refine wp_if_neg (by simp[hf]) ?_
      refine wpAny_pure (hQ true h1 L1 es1 (ep+1) t1 sb ⟨⟨_,ho1,⟨hex.1,hex.2.1,hex.2.2⟩,rfl⟩,rows1,q3,nd1,el1,pl1,ld1,?_,by omega⟩ (fun h=>absurd h hm) fun _=>pm)
      unfold SetTable.tooFull at hf
      rw[decide_eq_true_eq,fill1] at hf
      rw[ln]
      omega
/-- the first ones of their kinds -/
def eY {α:Type} (f:α→NestedKey):List α→List α→List α
  | acc,[]=>acc
  | acc,x::xs=>eY f (if f x∈acc.map f then acc else acc++[x]) xs
theorem qQ {α:Type} (f:α→NestedKey) (x:α):∀(xs acc:List α),eY f acc (xs++[x])=if f x∈(eY f acc xs).map f then eY f acc xs else eY f acc xs++[x]
  | [],acc=>rfl
  | y::xs,acc=>qQ f x xs _
theorem oj {α:Type} (f:α→NestedKey):∀(xs acc:List α),∀p∈eY f acc xs,p∈acc∨p∈xs
  | [],acc,p,h=>.inl h
  | x::xs,acc,p,h=>by
    rcases oj f xs _ p h with h|h
    · split at h
      · exact .inl h
      · rcases List.mem_append.mp h with h|h
        · exact .inl h
        · exact .inr (by rw[List.mem_singleton.mp h]; exact List.mem_cons_self)
    · exact .inr (List.mem_cons_of_mem _ h)
theorem jb {α:Type} (f:α→NestedKey):∀(xs acc:List α) (k:NestedKey),k∈acc.map f∨k∈xs.map f→k∈(eY f acc xs).map f
  | [],acc,k,h=>by
    rcases h with h|h
    · exact h
    · cases h
  | x::xs,acc,k,h=>by
    refine jb f xs _ k ?_
    by_cases c:f x∈acc.map f
    · rw[if_pos c]
      rcases h with h|h
      · exact .inl h
      · rcases List.mem_cons.mp h with rfl|h
        · exact .inl c
        · exact .inr h
    · rw[if_neg c]
      rcases h with h|h
      · exact .inl (by rw[List.map_append]; exact List.mem_append_left _ h)
      · rcases List.mem_cons.mp h with rfl|h
        · exact .inl (by rw[List.map_append]; exact List.mem_append_right _ List.mem_cons_self)
        · exact .inr h
theorem sK {α:Type} (f:α→NestedKey):∀(xs acc:List α),(acc.map f).Nodup→((eY f acc xs).map f).Nodup
  | [],acc,h=>h
  | x::xs,acc,h=>sK f xs _ (by
    split
    · exact h
    · rename_i c
      rw[List.map_append,List.nodup_append]
      refine ⟨h,by simp,fun a ha b hb e=>c ?_⟩
      simp at hb
      rw[←hb,←e]
      exact ha)
theorem uA {α β:Type} (f:β→NestedKey) (g:α→β):∀(xs acc:List α),eY f (acc.map g) (xs.map g)=(eY (fun a=>f (g a)) acc xs).map g
  | [],acc=>rfl
  | x::xs,acc=>by
    show eY f (if f (g x)∈(acc.map g).map f then acc.map g else acc.map g++[g x]) (xs.map g)=(eY (fun a=>f (g a)) (if f (g x)∈acc.map (fun a=>f (g a)) then acc else acc++[x]) xs).map g
    rw[←uA f g xs]
    have e:(acc.map g).map f=acc.map fun a=>f (g a):=List.map_map
    rw[e]
    split
    · rfl
    · rw[List.map_append]
      rfl
/-- what the set has of the first i things -/
structure Hd (ks:List El) (i:Nat) (L:List El):Prop where
  pm:L.Perm (eY (·.2) [] (ks.take i))
theorem Hd.sub {ks L:List El} {i:Nat} (g:Hd ks i L):∀p∈L,p∈ks.take i:=fun p hp=>by
  rcases oj _ _ _ p (g.pm.mem_iff.mp hp) with h|h
  · cases h
  · exact h
theorem Hd.nd {ks L:List El} {i:Nat} (g:Hd ks i L):(L.map (·.2)).Nodup:=(g.pm.map (·.2)).nodup_iff.mpr (sK (fun p:El=>p.2) _ [] (by simp))
theorem few_of {ks L:List El} {n:Nat} (hs:∀p∈L,p∈ks) (nd:(L.map (·.2)).Nodup) (D:List NestedKey) (hD:D.length≤n) (hk:∀p∈ks,p.2∈D):L.length≤n:=by
  have:∀(l D:List NestedKey),l.Nodup→(∀x∈l,x∈D)→l.length≤D.length:=by
    intro l
    induction l with
    | nil=>intro D _ _; exact Nat.zero_le _
    | cons x l ih=>
      intro D nd h
      rw[List.nodup_cons] at nd
      have hx:=h x List.mem_cons_self
      have:=ih (D.erase x) nd.2 fun y hy=>(List.mem_erase_of_ne fun e=>nd.1 (by rw[←e]; exact hy)).mpr (h y (List.mem_cons_of_mem _ hy))
      rw[List.length_erase_of_mem hx] at this
      have:=List.length_pos_of_mem hx
      rw[List.length_cons]
      omega
  have h:=this (L.map (·.2)) D nd fun x hx=>by
    obtain ⟨p,hp,rfl⟩:=List.mem_map.mp hx
    exact hk p (hs p hp)
  rw[List.length_map] at h
  omega
/-- a new set -/
theorem fresh {h:Heap} (ho:h.get? a=some { cls:=.type "set",dict:=none,data:=.set #[] 0 (.fresh 0 0 (!w.params.followText "set-order")) }):SetN w h a [] #[] 0 (.fresh 0 0 (!w.params.followText "set-order")) where
  ob:=⟨_,ho,⟨rfl,rfl,rfl⟩,rfl⟩
  rows:=rfl
  tab:=⟨.nil,rfl,rfl,⟨.inl rfl⟩,nofun,fun i h j hi=>nomatch hi⟩
  nd:=.nil
  el:=nofun
  plain:=rfl
  led:=by
    cases hc:w.params.followText "set-order" with
    | true=>exact .inl rfl
    | false=>exact .inr rfl
  room:=by
    show 0*5<7*3
    decide
  few:=Nat.zero_le _
/-- the loop of set.update; the things are of at most 306 kinds -/
theorem qR {I:Addr} {fp wr:List Addr} {G:Array GenState→Array GenState→Prop} {n:Nat} {Pv:Nat→Value→Prop} {St:Nat→Shared→Prop} {R:Result→Shared→Prop}
    (W:WalksS P w A.in1 I fp wr G n Pv St) (S:Addr) (hSf:S∉fp) (ks:List El) (hn:n=ks.length) (D:List NestedKey) (hD:D.length≤305) (hkD:∀p∈ks,p.2∈D) (hval:∀i v,Pv i v→∃p,ks[i]?=some p∧v=.ref p.1)
    (h0:Heap) (hk:∀p∈ks,IsN h0 p.2 p.1) (hS0:h0.get? S=none) (hw0:∀b∈wr,h0.get? b=none) (hu:A.in1.units+8<cLine) :
    ∀(k i:Nat) (s:Shared),n - i=k→i≤n→St i s→(∀b o,h0.get? b=some o→s.heap.get? b=some o)→(∃L es ep t,SetN w s.heap S L es ep t∧Hd ks i L)→
      (∀s' L es ep t,Moved (S::wr) G s s'→SetN w s'.heap S L es ep t→Hd ks n L→(∀b o,h0.get? b=some o→s'.heap.get? b=some o)→R (.ok (.ret .none)) s')→
      codeAny (model P w) A (.builtin "set.update.loop" ⟨[.ref S,.ref I],[]⟩) R s:=by
  have hSw:S∉wr:=fun h=>hSf (W.sub _ h)
  have inc:∀b∈wr,b∈S::wr:=fun b hb=>List.mem_cons_of_mem _ hb
  have kept:∀ {s s':Shared},Moved wr G s s'→(∀b o,h0.get? b=some o→s.heap.get? b=some o)→∀b o,h0.get? b=some o→s'.heap.get? b=some o:=fun hm hkp b o e=>hm.heap b o (fun hb=>by rw[hw0 b hb] at e; cases e) (hkp b o e)
  have re:∀ {s':Shared} {s:Shared} {L es ep t i},SetN w s.heap S L es ep t→Hd ks i L→Moved wr G s s'→(∀b o,h0.get? b=some o→s'.heap.get? b=some o)→SetN w s'.heap S L es ep t:=fun {s' s L es ep t i} hS g hm hkp=>by
    obtain ⟨o,ho,r⟩:=hS.ob
    exact ⟨⟨o,hm.heap S o hSw ho,r⟩,hS.rows,hS.tab,hS.nd,fun p hp=>(hk p (List.mem_of_mem_take (g.sub p hp))).more hkp,hS.plain,hS.led,hS.room,hS.few⟩
  intro k
  induction k with
  | zero=>
    intro i s hk' hi hst hkp ⟨L,es,ep,t,hS,g⟩ hR
    obtain rfl:i=n:=by omega
    refine codeAny_builtin F.entry_set_update_loop ?_
    rw[Around.under_plainId F.plain_set_update_loop _]
    show wpAny _ A.in1 (pyNext (.ref I) >>= _) _ _ s
    refine wpAny_bind (W.done s _ _ hst fun s' hm=>?_)
    show wpAny _ A.in1 (ret Value.none) _ _ s'
    exact wpAny_pure (hR s' L es ep t (hm.mono inc) (re hS g hm (kept hm hkp)) g (kept hm hkp))
  | succ k ih=>
    intro i s hk' hi hst hkp ⟨L,es,ep,t,hS,g⟩ hR
    have hlt:i<n:=by omega
    refine codeAny_builtin F.entry_set_update_loop ?_
    rw[Around.under_plainId F.plain_set_update_loop _]
    show wpAny _ A.in1 (pyNext (.ref I) >>= _) _ _ s
    refine wpAny_bind (W.item i s _ _ hlt hst fun v s' hP hst' hm=>?_)
    obtain ⟨p,hp,rfl⟩:=hval i v hP
    have hkp':=kept hm hkp
    have hS':=re hS g hm hkp'
    have hx:IsN s'.heap p.2 p.1:=(hk p (List.mem_of_getElem? hp)).more hkp'
    have lf:L.length≤305:=few_of (fun q hq=>List.mem_of_mem_take (g.sub q hq)) g.nd D hD hkD
    show wpAny _ A.in1 (holding [Value.ref p.1] (setAdd S (.ref p.1)) >>= _) _ _ s'
    refine wpAny_bind (wpAny_holding ?_)
    unfold setAdd
    refine wpAny_holding ?_
    refine wpAny_bind ((nestedKind P w).pyHash hu hx.kind ?_)
    refine add (s:={ s' with toks:=s'.toks+p.2.draws }) (k:=p.2) hS' rfl hx hu (by omega) fun b h' L' es' ep' t' hsb hS2 c1 c2=>?_
    have tk:ks.take (i+1)=ks.take i++[p]:=by rw[List.take_add_one,hp]; rfl
    have g':Hd ks (i+1) L':=by
      constructor
      rw[tk,qQ]
      have mi:=(g.pm.map (·.2)).mem_iff (a:=p.2)
      by_cases c:p.2∈L.map (·.2)
      · rw[c1 c,if_pos (mi.mp c)]
        exact g.pm
      · rw[if_neg fun z=>c (mi.mpr z)]
        exact ((c2 c).trans (g.pm.cons (p.1,p.2))).trans (List.perm_append_singleton _ _).symm
    have hkp2:∀b o,h0.get? b=some o→h'.get? b=some o:=fun b o e=>(hsb.2 b (fun z=>by rw[z,hS0] at e; cases e)).trans (hkp' b o e)
    refine wpAny_pure ⟨plainId_quiet F.plain_set_update_loop _,ih (i+1) _ (by omega) hlt (W.frame _ s' _ _ hst' (Nat.le_add_right _ _) fun b hb o e=>?_) hkp2 ⟨L',es',ep',t',hS2,g'⟩ fun s'' L2 es2 ep2 t2 hm'' hS'' g'' hkp''=>?_⟩
    · rw[hsb.2 b fun z=>hSf (z▸hb)]
      exact e
    · refine hR s'' L2 es2 ep2 t2 (Moved.trans W.gtrans ((hm.mono inc).then_heap (Nat.le_add_right _ _) fun b o hb e=>?_) hm'') hS'' g'' hkp''
      rw[hsb.2 b fun z=>hb (z▸List.mem_cons_self)]
      exact e
end
end SN
namespace SN
open PySem PySem.Spec PyProof.Rows L2
section
variable {P:Program} {w:World} {A:Around} {E:Value→Shared→Prop} {s:Shared}
set_option maxRecDepth 100000 in
set_option maxHeartbeats 3200000 in
theorem set_list {l:Addr} {items:Array Value} (ks:List El) (D:List NestedKey) (hD:D.length≤305) (hkD:∀p∈ks,p.2∈D) {Q:Value→Shared→Prop} (hh:A.handled=none) (hl:s.heap.IsList l items) (hit:items.toList=ks.map fun p=>Value.ref p.1)
    (hk:∀p∈ks,IsN s.heap p.2 p.1) (hu:A.units+11<cLine) (h:∀(h':Heap) (tk:Nat) (L:List El) (es:Array (Int × Value)) (ep:Nat) (t:SetTable),SetN w h' s.heap.objs.size L es ep t→Hd ks ks.length L→(∀b o,s.heap.get? b=some o→h'.get? b=some o)→Q (.ref s.heap.objs.size) { s with heap:=h',toks:=tk }) :
    wpAny (model P w) A (call (.type "set") [.ref l]) Q E s:=by
  have isz:items.size=ks.length:=by
    have q:=congrArg List.length hit
    rw[List.length_map] at q
    exact q
  obtain ⟨c,tl,mro⟩:=F.called_set.mro
  have made:=F.called_set.made
  have sub:=F.called_set.sub
  refine wpAny_call (codeAny_of_tree ?_)
  show wpAny _ _ (callAny (.type "set") _) _ _ _
  refine wpAny_pure ⟨Code.quiet_builtin _ (by decide +kernel),codeAny_builtin F.entry_type_call ?_⟩
  rw[Around.under_plain (weight_type_call_type "set" [.ref l] []) rfl]
  have a1:=F.called_set.notType
  have a2:=F.called_set.canCreate
  have a3:=F.typeCall_set_1 (.ref l)
  repeat (any_goals (first|assumption|wp_step))
  refine codeAny_mono (code_set_led1 (.ref l) (E:=E) (Q₁:=fun b s₁=>b=.ref s.heap.objs.size∧s₁={ s with heap:=s.heap.push { cls:=.type "set",dict:=none,data:=.set #[] 0 (.fresh 0 0 (!w.params.followText "set-order")) } }) ⟨rfl,rfl⟩) fun r s₁ hr=>?_
  cases r with
  | error e=>exact hr
  | ok fl=>
    cases fl with
    | next=>exact hr.elim
    | brk=>exact hr.elim
    | cont=>exact hr.elim
    | ret b=>
      obtain ⟨rfl,rfl⟩:=hr
      obtain ⟨h1,eh1⟩:∃h1,h1=s.heap.push { cls:=.type "set",dict:=none,data:=.set #[] 0 (.fresh 0 0 (!w.params.followText "set-order")) }:=⟨_,rfl⟩
      rw[←eh1]
      have z1:h1.objs.size=s.heap.objs.size+1:=by rw[eh1]; exact Heap.size_push ..
      have hS:h1.get? s.heap.objs.size=some { cls:=.type "set",dict:=none,data:=.set #[] 0 (.fresh 0 0 (!w.params.followText "set-order")) }:=by rw[eh1]; exact Heap.get?_push_size _ rfl
      have k1:∀b o,s.heap.get? b=some o→h1.get? b=some o:=fun b o e=>by rw[eh1]; exact Heap.get?_push_of_some _ e
      have hT:Shared.TypeIs { s with heap:=h1 } (.ref s.heap.objs.size) "set":=⟨_,hS,rfl⟩
      have a4:=F.called_set.init.lookup
      have a5:=F.called_set.init.bind (.ref s.heap.objs.size)
      repeat (any_goals (first|assumption|wp_step))
      refine codeAny_mono (codeAny_call_builtin (R:=wants (fun r s₂=>r=.none∧∃h' tk L es ep t,s₂={ s with heap:=h',toks:=tk }∧SetN w h' s.heap.objs.size L es ep t∧Hd ks ks.length L∧(∀b o,s.heap.get? b=some o→h'.get? b=some o)) E) F.called_set.init.plain F.entry_set_init (check_set_init_1 hT ?_)) fun r₂ s₂ hr₂=>?_
      · obtain ⟨ol,hol,hcl,nl,hdl⟩:=hl
        obtain ⟨ocls,odict,odata,oslots⟩:=ol
        simp only at hcl hdl
        subst hcl
        subst hdl
        have hol1:=k1 _ _ hol
        have b1:=F.sub_list_set
        have b2:=F.sub_list_frozenset
        have b3:(Value.type "list" == Value.type "dict")=false:=by decide
        have hl1:h1.IsList l items:=⟨_,hol1,rfl,nl,rfl⟩
        unfold Builtin.«set.__init__» noKeywords Builtin.Frozenset.updateFrom
        generalize hPI:pyIter=PI
        wp_walk
        subst hPI
        refine wpAny_pyIter_list hl1 ?_
        refine wpAny_bind (wpAny_runValue ?_)
        have lS:l<s.heap.objs.size:=Heap.lt_size hol
        have h3:A.in1.in1.in1.handled=none:=by simp[hh]
        have nI:l≠h1.objs.size:=by rw[z1]; exact Nat.ne_of_lt (Nat.lt_succ_of_lt lS)
        have nf:s.heap.objs.size∉[h1.objs.size,l]:=by
          rw[z1]
          intro z
          rcases List.mem_cons.mp z with z|z
          · exact absurd z (Nat.ne_of_lt (Nat.lt_succ_self _))
          · exact Nat.ne_of_gt lS (List.mem_singleton.mp z)
        have hval:∀(i:Nat) (v:Value),items[i]?=some v→∃p,ks[i]?=some p∧v=.ref p.1:=fun i v hv=>by
          rw[←Array.getElem?_toList,hit,List.getElem?_map] at hv
          obtain ⟨p,e1,e2⟩:=Option.map_eq_some_iff.mp hv
          exact ⟨p,e1,e2.symm⟩
        have none_of:∀b,s.heap.objs.size≤b→s.heap.get? b=none:=fun b hb=>by
          cases q:s.heap.get? b with
          | none=>rfl
          | some o=>exact absurd (Heap.lt_size q) (Nat.not_lt_of_le hb)
        refine qR ((Walks.list h3 _ l nI items).toS) s.heap.objs.size nf ks isz D hD hkD hval s.heap hk (none_of _ (Nat.le_refl _)) (fun b hb=>none_of b (by rw[List.mem_singleton.mp hb,z1]; exact Nat.le_succ _)) (by show A.units+1+1+1+8<cLine; omega) (items.size - 0) 0 _ (by omega) (Nat.zero_le _)
          ⟨⟨_,Heap.get?_push_size _ rfl,rfl,rfl⟩,(hl1.push _)⟩ (fun b o e=>Heap.get?_push_of_some _ (k1 b o e)) ?st ?go
        case st=>exact ⟨[],#[],0,_,fresh (Heap.get?_push_of_some _ hS),⟨.nil⟩⟩
        case go=>
          intro s' L es ep t hm hS' g' hkp
          obtain ⟨h',g2,d',tk',os'⟩:=s'
          obtain rfl:g2=s.gens:=hm.gens
          obtain rfl:d'=s.drawn:=hm.drawn
          obtain rfl:os'=s.os:=hm.os
          show wpAny _ _ _ _ _ _
          refine wpAny_pure ?_
          show wpAny _ _ (ret Value.none) _ _ _
          rw[isz] at g'
          exact wpAny_pure ⟨rfl,h',tk',L,es,ep,t,rfl,hS',g',hkp⟩
      · cases r₂ with
        | error e=>exact hr₂
        | ok fl₂=>
          cases fl₂ with
          | next=>exact hr₂.elim
          | brk=>exact hr₂.elim
          | cont=>exact hr₂.elim
          | ret r=>
            obtain ⟨rfl,h',tk,L,es,ep,t,rfl,hS',g',hk'⟩:=hr₂
            repeat (any_goals (first|assumption|wp_step))
            exact h _ _ _ _ _ _ hS' g' hk'
set_option maxRecDepth 100000 in
set_option maxHeartbeats 3200000 in
theorem set_tuple {l:Addr} {items:Array Value} (ks:List El) (D:List NestedKey) (hD:D.length≤305) (hkD:∀p∈ks,p.2∈D) {Q:Value→Shared→Prop} (hh:A.handled=none) (hl:s.heap.IsTuple l items) (hit:items.toList=ks.map fun p=>Value.ref p.1)
    (hk:∀p∈ks,IsN s.heap p.2 p.1) (hu:A.units+11<cLine) (h:∀(h':Heap) (tk:Nat) (L:List El) (es:Array (Int × Value)) (ep:Nat) (t:SetTable),SetN w h' s.heap.objs.size L es ep t→Hd ks ks.length L→(∀b o,s.heap.get? b=some o→h'.get? b=some o)→Q (.ref s.heap.objs.size) { s with heap:=h',toks:=tk }) :
    wpAny (model P w) A (call (.type "set") [.ref l]) Q E s:=by
  have isz:items.size=ks.length:=by
    have q:=congrArg List.length hit
    rw[List.length_map] at q
    exact q
  obtain ⟨c,tl,mro⟩:=F.called_set.mro
  have made:=F.called_set.made
  have sub:=F.called_set.sub
  refine wpAny_call (codeAny_of_tree ?_)
  show wpAny _ _ (callAny (.type "set") _) _ _ _
  refine wpAny_pure ⟨Code.quiet_builtin _ (by decide +kernel),codeAny_builtin F.entry_type_call ?_⟩
  rw[Around.under_plain (weight_type_call_type "set" [.ref l] []) rfl]
  have a1:=F.called_set.notType
  have a2:=F.called_set.canCreate
  have a3:=F.typeCall_set_1 (.ref l)
  repeat (any_goals (first|assumption|wp_step))
  refine codeAny_mono (code_set_led1 (.ref l) (E:=E) (Q₁:=fun b s₁=>b=.ref s.heap.objs.size∧s₁={ s with heap:=s.heap.push { cls:=.type "set",dict:=none,data:=.set #[] 0 (.fresh 0 0 (!w.params.followText "set-order")) } }) ⟨rfl,rfl⟩) fun r s₁ hr=>?_
  cases r with
  | error e=>exact hr
  | ok fl=>
    cases fl with
    | next=>exact hr.elim
    | brk=>exact hr.elim
    | cont=>exact hr.elim
    | ret b=>
      obtain ⟨rfl,rfl⟩:=hr
      obtain ⟨h1,eh1⟩:∃h1,h1=s.heap.push { cls:=.type "set",dict:=none,data:=.set #[] 0 (.fresh 0 0 (!w.params.followText "set-order")) }:=⟨_,rfl⟩
      rw[←eh1]
      have z1:h1.objs.size=s.heap.objs.size+1:=by rw[eh1]; exact Heap.size_push ..
      have hS:h1.get? s.heap.objs.size=some { cls:=.type "set",dict:=none,data:=.set #[] 0 (.fresh 0 0 (!w.params.followText "set-order")) }:=by rw[eh1]; exact Heap.get?_push_size _ rfl
      have k1:∀b o,s.heap.get? b=some o→h1.get? b=some o:=fun b o e=>by rw[eh1]; exact Heap.get?_push_of_some _ e
      have hT:Shared.TypeIs { s with heap:=h1 } (.ref s.heap.objs.size) "set":=⟨_,hS,rfl⟩
      have a4:=F.called_set.init.lookup
      have a5:=F.called_set.init.bind (.ref s.heap.objs.size)
      repeat (any_goals (first|assumption|wp_step))
      refine codeAny_mono (codeAny_call_builtin (R:=wants (fun r s₂=>r=.none∧∃h' tk L es ep t,s₂={ s with heap:=h',toks:=tk }∧SetN w h' s.heap.objs.size L es ep t∧Hd ks ks.length L∧(∀b o,s.heap.get? b=some o→h'.get? b=some o)) E) F.called_set.init.plain F.entry_set_init (check_set_init_1 hT ?_)) fun r₂ s₂ hr₂=>?_
      · obtain ⟨ol,hol,hcl,nl,hdl⟩:=hl
        obtain ⟨ocls,odict,odata,oslots⟩:=ol
        simp only at hcl hdl
        subst hcl
        subst hdl
        have hol1:=k1 _ _ hol
        have b1:=F.sub_tuple_set
        have b2:=F.sub_tuple_frozenset
        have b3:(Value.type "tuple" == Value.type "dict")=false:=by decide
        have hl1:h1.IsTuple l items:=⟨_,hol1,rfl,nl,rfl⟩
        unfold Builtin.«set.__init__» noKeywords Builtin.Frozenset.updateFrom
        generalize hPI:pyIter=PI
        wp_walk
        subst hPI
        refine wpAny_pyIter_tuple hl1 ?_
        refine wpAny_bind (wpAny_runValue ?_)
        have lS:l<s.heap.objs.size:=Heap.lt_size hol
        have h3:A.in1.in1.in1.handled=none:=by simp[hh]
        have nI:l≠h1.objs.size:=by rw[z1]; exact Nat.ne_of_lt (Nat.lt_succ_of_lt lS)
        have nf:s.heap.objs.size∉[h1.objs.size,l]:=by
          rw[z1]
          intro z
          rcases List.mem_cons.mp z with z|z
          · exact absurd z (Nat.ne_of_lt (Nat.lt_succ_self _))
          · exact Nat.ne_of_gt lS (List.mem_singleton.mp z)
        have hval:∀(i:Nat) (v:Value),items[i]?=some v→∃p,ks[i]?=some p∧v=.ref p.1:=fun i v hv=>by
          rw[←Array.getElem?_toList,hit,List.getElem?_map] at hv
          obtain ⟨p,e1,e2⟩:=Option.map_eq_some_iff.mp hv
          exact ⟨p,e1,e2.symm⟩
        have none_of:∀b,s.heap.objs.size≤b→s.heap.get? b=none:=fun b hb=>by
          cases q:s.heap.get? b with
          | none=>rfl
          | some o=>exact absurd (Heap.lt_size q) (Nat.not_lt_of_le hb)
        refine qR ((Walks.tuple h3 _ l nI items).toS) s.heap.objs.size nf ks isz D hD hkD hval s.heap hk (none_of _ (Nat.le_refl _)) (fun b hb=>none_of b (by rw[List.mem_singleton.mp hb,z1]; exact Nat.le_succ _)) (by show A.units+1+1+1+8<cLine; omega) (items.size - 0) 0 _ (by omega) (Nat.zero_le _)
          ⟨⟨_,Heap.get?_push_size _ rfl,rfl,rfl⟩,(hl1.push _)⟩ (fun b o e=>Heap.get?_push_of_some _ (k1 b o e)) ?st ?go
        case st=>exact ⟨[],#[],0,_,fresh (Heap.get?_push_of_some _ hS),⟨.nil⟩⟩
        case go=>
          intro s' L es ep t hm hS' g' hkp
          obtain ⟨h',g2,d',tk',os'⟩:=s'
          obtain rfl:g2=s.gens:=hm.gens
          obtain rfl:d'=s.drawn:=hm.drawn
          obtain rfl:os'=s.os:=hm.os
          show wpAny _ _ _ _ _ _
          refine wpAny_pure ?_
          show wpAny _ _ (ret Value.none) _ _ _
          rw[isz] at g'
          exact wpAny_pure ⟨rfl,h',tk',L,es,ep,t,rfl,hS',g',hkp⟩
      · cases r₂ with
        | error e=>exact hr₂
        | ok fl₂=>
          cases fl₂ with
          | next=>exact hr₂.elim
          | brk=>exact hr₂.elim
          | cont=>exact hr₂.elim
          | ret r=>
            obtain ⟨rfl,h',tk,L,es,ep,t,rfl,hS',g',hk'⟩:=hr₂
            repeat (any_goals (first|assumption|wp_step))
            exact h _ _ _ _ _ _ hS' g' hk'
end
end SN
namespace DL
open PySem PySem.Spec PyProof.Rows L2 LamX SN
abbrev T3:=Int × Int × Int
/-- an end (e,(d,n)); a ride (d,n) -/
def tD:Bool→T3→D
  | true,t=>.tup [.int t.1,.tup [.int t.2.1,.int t.2.2]]
  | false,t=>.tup [.int t.2.1,.int t.2.2]
def tK:Bool→T3→NestedKey
  | true,t=>.tup [.num t.1,.tup [.num t.2.1,.num t.2.2]]
  | false,t=>.tup [.num t.2.1,.num t.2.2]
def unK:Bool→NestedKey→T3
  | true,.tup [.num e,.tup [.num d,.num n]]=>(e,d,n)
  | false,.tup [.num d,.num n]=>(0,d,n)
  | _,_=>(0,0,0)
def qS:Bool→D→Option T3
  | true,.tup [.int e,.tup [.int d,.int n]]=>some (e,d,n)
  | false,.tup [.int d,.int n]=>some (0,d,n)
  | _,_=>none
def gj (b:Bool):List D→Option (List T3)
  | []=>some []
  | d::ds=>match qS b d,gj b ds with
    | some t,some ts=>some (t::ts)
    | _,_=>none
theorem nw {b:Bool} {d:D} {t:T3} (h:qS b d=some t):d=tD b t∧unK b (tK b t)=t:=by
  unfold qS at h
  split at h
  · cases h; exact ⟨rfl,rfl⟩
  · cases h; exact ⟨rfl,rfl⟩
  · cases h
theorem i4 {b:Bool}:∀ {ds:List D} {ts:List T3},gj b ds=some ts→ds=ts.map (tD b)∧∀t∈ts,unK b (tK b t)=t
  | [],ts,h=>by cases h; exact ⟨rfl,nofun⟩
  | d::ds,ts,h=>by
    unfold gj at h
    split at h
    · rename_i t us h1 h2
      cases h
      obtain ⟨e1,e2⟩:=nw h1
      obtain ⟨f1,f2⟩:=i4 h2
      refine ⟨by rw[e1,f1]; rfl,fun u hu=>?_⟩
      rcases List.mem_cons.mp hu with rfl|hu
      · exact e2
      · exact f2 u hu
    · cases h
/-- strictly rising -/
def lt3 (a b:T3):Bool:=decide (a.1<b.1∨(a.1=b.1∧(a.2.1<b.2.1∨(a.2.1=b.2.1∧a.2.2<b.2.2))))
theorem om {a b:T3} (h:le3 a b=true) (n:a≠b):lt3 a b=true:=by
  obtain ⟨a1,a2,a3⟩:=a
  obtain ⟨b1,b2,b3⟩:=b
  simp[le3,lt3] at *
  omega
theorem yF (a b:T3):lt3 a b=true∨a=b∨lt3 b a=true:=by
  obtain ⟨a1,a2,a3⟩:=a
  obtain ⟨b1,b2,b3⟩:=b
  simp[lt3]
  omega
theorem iN (a:T3):lt3 a a=false:=by simp[lt3]
theorem kE {a b c:T3} (h:lt3 a b=true) (h2:lt3 b c=true):lt3 a c=true:=by
  simp[lt3] at *
  omega
def i5 (x:T3):List T3→List T3
  | []=>[x]
  | y::ys=>if lt3 x y=true then x::y::ys else if x=y then y::ys else y::i5 x ys
/-- sorted,each once -/
def bJ (ts:List T3):List T3:=ts.foldr i5 []
def Inc (ts:List T3):Prop:=ts.Pairwise fun a b=>lt3 a b=true
theorem mN {x k:T3}:∀ys:List T3,k∈i5 x ys↔k=x∨k∈ys
  | []=>by simp[i5]
  | y::ys=>by
    unfold i5
    split
    · simp
    · split
      · rename_i h
        subst h
        simp
      · rw[List.mem_cons,mN ys,List.mem_cons]
        exact ⟨fun h=>h.elim (fun z=>.inr (.inl z)) fun z=>z.elim .inl fun z=>.inr (.inr z),fun h=>h.elim (fun z=>.inr (.inl z)) fun z=>z.elim .inl fun z=>.inr (.inr z)⟩
theorem qT {x:T3}:∀ys:List T3,Inc ys→Inc (i5 x ys)
  | [],_=>by simp[i5,Inc]
  | y::ys,h=>by
    obtain ⟨h1,h2⟩:=List.pairwise_cons.mp h
    unfold i5
    split
    · rename_i hx
      exact List.pairwise_cons.mpr ⟨fun z hz=>(List.mem_cons.mp hz).elim (fun e=>e▸hx) fun hz=>kE hx (h1 z hz),h⟩
    · rename_i hx
      split
      · exact h
      · rename_i hn
        refine List.pairwise_cons.mpr ⟨fun z hz=>((mN ys).mp hz).elim (fun e=>?_) (h1 z),qT ys h2⟩
        rcases yF x y with q|q|q
        · exact absurd q hx
        · exact absurd q hn
        · rw[e]; exact q
theorem gD {k:T3}:∀ns:List T3,k∈bJ ns↔k∈ns
  | []=>Iff.rfl
  | n::ns=>by
    show k∈i5 n (bJ ns)↔_
    rw[mN,gD ns,List.mem_cons]
theorem gE:∀ns:List T3,Inc (bJ ns)
  | []=>List.Pairwise.nil
  | n::ns=>qT _ (gE ns)
theorem wK {ts:List T3} (h:Inc ts):ts.Nodup:=h.imp fun {a b} h e=>by rw[e,iN] at h; cases h
theorem sL:∀ {a b:List T3},Inc a→Inc b→(∀k,k∈a↔k∈b)→a=b
  | [],[],_,_,_=>rfl
  | [],y::ys,_,_,h=>absurd ((h y).mpr List.mem_cons_self) List.not_mem_nil
  | x::xs,[],_,_,h=>absurd ((h x).mp List.mem_cons_self) List.not_mem_nil
  | x::xs,y::ys,ha,hb,h=>by
    obtain ⟨a1,a2⟩:=List.pairwise_cons.mp ha
    obtain ⟨b1,b2⟩:=List.pairwise_cons.mp hb
    have e:x=y:=by
      have p:=(h x).mp List.mem_cons_self
      have q:=(h y).mpr List.mem_cons_self
      rcases List.mem_cons.mp p with p|p
      · exact p
      · rcases List.mem_cons.mp q with q|q
        · exact q.symm
        · have:=kE (a1 _ q) (b1 _ p)
          rw[iN] at this
          cases this
    subst e
    have no:∀k l:List T3,k∈[l]→True:=fun _ _ _=>trivial
    congr 1
    refine sL a2 b2 fun k=>⟨fun hk=>?_,fun hk=>?_⟩
    · rcases List.mem_cons.mp ((h k).mp (List.mem_cons_of_mem _ hk)) with e|e
      · have:=a1 _ hk
        rw[e,iN] at this
        cases this
      · exact e
    · rcases List.mem_cons.mp ((h k).mpr (List.mem_cons_of_mem _ hk)) with e|e
      · have:=b1 _ hk
        rw[e,iN] at this
        cases this
      · exact e
theorem qU {ms ns:List T3} (h1:Inc ms) (h2:∀k,k∈ms↔k∈ns):bJ ns=ms:=sL (gE ns) h1 fun k=>(gD ns).trans (h2 k).symm
theorem ub {ns:List T3}:(bJ ns).length≤ns.length∧((bJ ns).length=ns.length↔ns.Nodup):=by
  have il:∀(x:T3) (ys:List T3),(i5 x ys).length≤ys.length+1∧(Inc ys→((i5 x ys).length=ys.length+1↔x∉ys)):=by
    intro x ys
    induction ys with
    | nil=>simp[i5]
    | cons y ys ih=>
      unfold i5
      split
      · rename_i hx
        refine ⟨by simp,fun hi=>⟨fun _ hm=>?_,fun _=>by simp⟩⟩
        have:=(List.pairwise_cons.mp hi).1
        rcases List.mem_cons.mp hm with e|hm
        · rw[e,iN] at hx; cases hx
        · have:=kE hx (this x hm)
          rw[iN] at this
          cases this
      · split
        · rename_i he
          subst he
          refine ⟨by simp,fun _=>⟨fun h=>by simp at h,fun h=>absurd List.mem_cons_self h⟩⟩
        · rename_i hn
          refine ⟨by simp only[List.length_cons]; omega,fun hi=>?_⟩
          have:=ih.2 (List.pairwise_cons.mp hi).2
          simp only[List.length_cons,List.mem_cons,not_or]
          constructor
          · intro h
            exact ⟨hn,this.mp (by omega)⟩
          · intro h
            have:=this.mpr h.2
            omega
  induction ns with
  | nil=>exact ⟨Nat.le_refl _,by simp[bJ]⟩
  | cons n ns ih=>
    show (i5 n (bJ ns)).length≤_∧((i5 n (bJ ns)).length=_↔_)
    have h:=il n (bJ ns)
    have h2:=h.2 (gE ns)
    rw[gD] at h2
    rw[List.length_cons,List.nodup_cons]
    refine ⟨by omega,fun e=>?_,fun e=>?_⟩
    · have:(bJ ns).length=ns.length:=by omega
      exact ⟨h2.mp (by omega),ih.2.mp this⟩
    · have:=ih.2.mpr e.2
      have:=h2.mpr e.1
      omega
/-- their order as data -/
theorem ny (b:Bool) (t u:T3):dle (tD b t) (tD b u)=if b=true then le3 t u else le3 (0,t.2.1,t.2.2) (0,u.2.1,u.2.2):=by
  obtain ⟨t1,t2,t3⟩:=t
  obtain ⟨u1,u2,u3⟩:=u
  cases b with
  | false=>
    have h:=v0 (0,t2,t3) (0,u2,u3)
    rw[if_neg (by decide),←h,jZ,jZ]
    unfold trD tD
    rw[iM,iM,bL,bL,bL,bL,bL,fK]
    simp
  | true=>
    have ha:alk (.tup [.int u2,.int u3]) (.tup [.int t2,.int t3])=true:=by simp
    rw[if_pos rfl,jZ]
    unfold tD
    rw[iM,bL,hW ha,fK,vy,iM,bL,bL,fK]
    rw[Bool.eq_iff_iff]
    unfold le3
    by_cases h1:u1=t1
    · by_cases h2:u2=t2
      · by_cases h3:u3=t3
        · simp[h1,h2,h3]
        · simp[h1,h2,h3]
      · simp[h1,h2]
        omega
    · simp[h1]
      omega
end DL
namespace DL
open PySem PySem.Spec PyProof.Rows L2 LamX SN
theorem qV {α:Type} (f:α→NestedKey):∀(xs acc:List α),∀k∈acc.map f,k∈(eY f acc xs).map f
  | [],acc,k,h=>h
  | x::xs,acc,k,h=>qV f xs _ k (by
    split
    · exact h
    · rw[List.map_append]; exact List.mem_append_left _ h)
theorem jb {α:Type} (f:α→NestedKey):∀(xs acc:List α),∀x∈xs,f x∈(eY f acc xs).map f
  | [],acc,x,h=>by cases h
  | y::xs,acc,x,h=>by
    rcases List.mem_cons.mp h with rfl|h
    · refine qV f xs _ _ ?_
      split
      · assumption
      · simp
    · exact jb f xs _ x h
/-- its own kind tells a triple -/
abbrev OwnK (b:Bool) (t:T3):Prop:=unK b (tK b t)=t
abbrev qW (b:Bool) (zs:List (Addr × T3)):List (Addr × T3):=eY (fun p=>tK b p.2) [] zs
theorem mO {b:Bool} {zs:List (Addr × T3)}:∀p∈qW b zs,p∈zs:=fun p hp=>by
  rcases oj _ _ _ p hp with h|h
  · cases h
  · exact h
theorem uB {b:Bool} {zs:List (Addr × T3)}:((qW b zs).map (·.2)).Nodup:=by
  have h:=sK (fun p:Addr × T3=>tK b p.2) zs [] (by simp)
  have e:(qW b zs).map (fun p:Addr × T3=>tK b p.2)=((qW b zs).map (·.2)).map (tK b):=by rw[List.map_map]; rfl
  rw[e] at h
  exact (List.pairwise_map.mp h).imp fun h e=>h (by rw[e])
theorem qX {b:Bool} {zs:List (Addr × T3)} (ok:∀p∈zs,OwnK b p.2) (t:T3):t∈(qW b zs).map (·.2)↔t∈zs.map (·.2):=by
  constructor
  · intro h
    obtain ⟨p,hp,rfl⟩:=List.mem_map.mp h
    exact List.mem_map.mpr ⟨p,mO p hp,rfl⟩
  · intro h
    obtain ⟨p,hp,rfl⟩:=List.mem_map.mp h
    obtain ⟨q,hq,e⟩:=List.mem_map.mp (jb (fun p:Addr × T3=>tK b p.2) zs [] p hp)
    refine List.mem_map.mpr ⟨q,hq,?_⟩
    have e:tK b q.2=tK b p.2:=e
    have:=congrArg (unK b) e
    rw[ok q (mO q hq),ok p hp] at this
    exact this
theorem wL {b:Bool} {zs:List (Addr × T3)} (ok:∀p∈zs,OwnK b p.2):(qW b zs).length=(bJ (zs.map (·.2))).length:=by
  have:=((List.perm_ext_iff_of_nodup uB (wK (gE (zs.map (·.2))))).mpr fun t=>(qX ok t).trans (gD _).symm).length_eq
  rw[List.length_map] at this
  exact this
theorem qY {α β:Type} (f:α→β):∀ {m:List β} {n:List β},m.Perm n→∀l:List α,n=l.map f→∃l1:List α,l1.Perm l∧m=l1.map f:=by
  intro m n h
  induction h with
  | nil=>intro l e; cases l with
    | nil=>exact ⟨[],.nil,rfl⟩
    | cons _ _=>cases e
  | cons x p ih=>intro l e; cases l with
    | nil=>cases e
    | cons y l=>
      rw[List.map_cons] at e
      injection e with e1 e2
      obtain ⟨l1,h1,h2⟩:=ih l e2
      exact ⟨y::l1,h1.cons y,by rw[List.map_cons,←h2,e1]⟩
  | swap x y l0=>intro l e; match l,e with
    | a::c::l,e=>
      rw[List.map_cons,List.map_cons] at e
      injection e with e1 e2
      injection e2 with e2 e3
      exact ⟨c::a::l,.swap a c l,by rw[List.map_cons,List.map_cons,←e1,←e2,e3]⟩
  | trans p q ih1 ih2=>
    intro l e
    obtain ⟨l1,h1,h2⟩:=ih2 l e
    obtain ⟨l2,h3,h4⟩:=ih1 l1 h2
    exact ⟨l2,h3.trans h1,h4⟩
theorem kF {α β:Type} {R:β→α→Prop} (f:α→β):∀l:List α,(∀p∈l,R (f p) p)→PySem.W.EachIs R (l.map f) l
  | [],_=>.nil
  | p::l,h=>.cons (h p List.mem_cons_self) (kF f l fun q hq=>h q (List.mem_cons_of_mem _ hq))
theorem iW {α β:Type} (f:α→β):∀ {us:List β} {l:List α},PySem.W.EachIs (fun u p=>u=f p) us l→us=l.map f
  | _,_,.nil=>rfl
  | _,_,.cons h t=>by rw[List.map_cons,←iW f t,h]
theorem uC (b:Bool) (t:T3):dok 60 (tD b t)=true:=by
  cases b<;>simp[tD,dok]
theorem noL_t (b:Bool) (t:T3):noL (pdF (tD b t))=true:=by
  cases b<;>simp[tD,pdF,pdFs,noL,noLs]
theorem dep_t (b:Bool) (t:T3):(pdF (tD b t)).depth≤60:=(dz 60 _ (uC b t)).2
theorem wM (b:Bool) (ts:List T3):eS (ts.map (tD b))=true:=by
  unfold eS
  simp only[Bool.and_eq_true,List.all_eq_true,List.mem_map,forall_exists_index,and_imp,forall_apply_eq_imp_iff₂,Bool.or_eq_true]
  refine ⟨⟨fun t _=>uC b t,fun t _ u _=>?_⟩,.inl fun t _=>?_⟩
  · show alk (tD b t) (tD b u)=true
    cases b<;>simp[tD]
  · cases b<;>simp[tD]
section
variable {P:Program} {w:World} {A:Around} {E:Value→Shared→Prop} {s:Shared}
theorem qZ {a:Addr} {L:List El} {es:Array (Int × Value)} {ep:Nat} {t:SetTable} {b:Bool} {N:List (Addr × T3)} {Q:Value→Shared→Prop} (R:SetN w s.heap a L es ep t) (hh:A.handled=none) (hu:A.units+65<cLine)
    (pmN:L.Perm (N.map fun p=>(p.1,tK b p.2))) (rd:∀p∈N,∃as,Reads s.heap (.ref p.1) (pdF (tD b p.2)) as)
    (hQ:∀s' p (out:Array Value) (c:Nat) (M:List (Addr × T3)),(∀b o,s.heap.get? b=some o→s'.heap.get? b=some o)→s'.gens=s.gens→s'.os=s.os→s.heap.objs.size≤p→
      s'.heap.get? p=some (seqObj "list" out c)→out.toList=M.map (fun q=>Value.ref q.1)→M.Perm N→M.Pairwise (fun q r=>dle (tD b q.2) (tD b r.2)=true)→Q (.ref p) s') :
    wpAny (model P w) A (call (.builtin "sorted") [.ref a]) Q E s:=by
  obtain ⟨o,ho,hex,hd⟩:=R.ob
  have hsz:=cp R.rows
  have hfew:=R.few
  refine Calls.call_function_entry kind_sorted plain_sorted entry_sorted (args_sorted1 _) ?_
  unfold Builtin.«sorted»
  refine wpAny_bind (m:=checkCount "sorted" 1 1 _) (wpAny_pure ?_)
  refine wpAny_bind (collect_set (A:=A.in1) hh ⟨o,ho,hex.1,hd⟩ R.fits (by unfold scanBound; omega) R.tab.ris R.led fun s1 vs k1 hz g1 o1 pm=>?_)
  have hes:es.toList.map (·.2)=L.map fun q=>Value.ref q.1:=by
    rw[R.rows]
    unfold rwN
    rw[List.map_map]; rfl
  rw[hes] at pm
  have pm2:vs.Perm (N.map fun p=>Value.ref p.1):=by
    have h:=pm.trans (pmN.map fun q:El=>Value.ref q.1)
    rw[List.map_map] at h
    exact h
  obtain ⟨N1,pN,rfl⟩:=qY (fun p:Addr × T3=>Value.ref p.1) pm2 N rfl
  have hN1:N1.length≤306:=by rw[pN.length_eq]; have:=pmN.length_eq; rw[List.length_map] at this; omega
  refine wpAny_bind (wpAny_newList ?_ (by rw[List.length_map,sizeLine_eq]; omega))
  have hoL:(s1.heap.push (seqObj "list" (N1.map fun p=>Value.ref p.1).toArray 0)).get? s1.heap.objs.size=some (seqObj "list" (N1.map fun p=>Value.ref p.1).toArray 0):=Heap.get?_push_size _ rfl
  have er:PySem.W.EachIs (fun v (p:Addr × T3)=>∃as,Reads (s1.heap.push (seqObj "list" (N1.map fun p=>Value.ref p.1).toArray 0)) v (pdF (tD b p.2)) as∧s1.heap.objs.size∉as) (N1.map fun p=>Value.ref p.1) N1:=kF _ N1 fun p hp=>by
    obtain ⟨as,hr⟩:=rd p (pN.mem_iff.mp hp)
    have hr2:=PySem.W.reads_keeps (fun c u e=>Heap.get?_push_of_some _ (k1 c u e)) hr (h':=s1.heap.push (seqObj "list" (N1.map fun p=>Value.ref p.1).toArray 0))
    refine ⟨as,hr2,?_⟩
    rw[nZ hr2 (noL_t b p.2)]
    exact List.not_mem_nil
  obtain ⟨q1,q2,q3⟩:=iw (wM b (N1.map (·.2)))
  have en:N1.map (fun p:Addr × T3=>pdF (tD b p.2))=((N1.map (·.2)).map (tD b)).map pdF:=by rw[List.map_map,List.map_map]; rfl
  have e0:PySem.W.EachIs (fun v (p:Addr × T3)=>v=Value.ref p.1) (N1.map fun p=>Value.ref p.1) N1:=kF _ N1 fun _ _=>rfl
  refine wpAny_bind (wpAny_holding (PySem.W.list_sort_data (s:={ s1 with heap:=s1.heap.push (seqObj "list" (N1.map fun p=>Value.ref p.1).toArray 0) }) (enc:=fun p:Addr × T3=>pdF (tD b p.2)) hoL e0 er (by rw[en]; exact q1) (by rw[en]; exact q2) (by rw[sizeLine_eq]; omega) (fun p _=>?_) fun out a1 a2=>?_))
  · have:=dep_t b p.2
    show A.units+1+1+_<_
    omega
  · have eo:=iW (fun p:Addr × T3=>Value.ref p.1) a2
    obtain ⟨c,hc⟩:=sortedHeap_at (vs:=N1.map fun p=>Value.ref p.1) (out:=List.toArray out) hoL
    have dl:∀q r:Addr × T3,PySem.W.dataLe false (fun p:Addr × T3=>pdF (tD b p.2)) q r=dle (tD b q.2) (tD b r.2):=fun _ _=>rfl
    have pw:(N1.mergeSort (PySem.W.dataLe false fun p:Addr × T3=>pdF (tD b p.2))).Pairwise fun q r=>PySem.W.dataLe false (fun p:Addr × T3=>pdF (tD b p.2)) q r=true:=by
      refine List.pairwise_mergeSort (fun x y z h1 h2=>?_) (fun x y=>?_) N1
      · rw[dl,ny] at *
        cases b
        · exact gB h1 h2
        · exact gB h1 h2
      · rw[dl,dl,ny,ny]
        cases b
        · exact gA _ _
        · exact gA _ _
    refine wpAny_pure ⟨_,rfl,hQ _ s1.heap.objs.size (List.toArray out) c (N1.mergeSort (PySem.W.dataLe false fun p:Addr × T3=>pdF (tD b p.2))) (fun b u e=>?_) g1 o1 hz hc (by simpa using eo) ((List.mergeSort_perm N1 _).trans pN) pw⟩
    have q:=k1 b u e
    have hlt:=Heap.lt_size q
    show (sortedHeap (s1.heap.push (seqObj "list" (N1.map fun p=>Value.ref p.1).toArray 0)) s1.heap.objs.size _ _).get? b=some u
    rw[sortedHeap_old (Nat.ne_of_lt hlt) (by rw[size_push']; exact Nat.lt_succ_of_lt hlt)]
    exact Heap.get?_push_of_some _ q
end
/-- what a sequence holds -/
def iX (S:Sto) (d:D):Option (List D):=match view S d with
  | .tup ds=>some ds
  | .lst ds=>some ds
  | .ro ds=>some ds
  | _=>none
theorem qa {K:PySem.W.Frag} {mg:Str→Option Value} {μ:Mu} {H:Hp} {S:Sto} (rs:RelS K mg μ H S) {d:D} {v:V} {xs:List D} (r:Rep K mg μ H d v) (e:iX S d=some xs) :
    ∃a vs,v=.ref a∧(SqT K H a vs∨SqL K H a vs)∧RepAll K mg μ H xs vs:=by
  unfold iX at e
  have rw0:=rs.view r
  split at e
  · rename_i ev
    cases e
    rw[ev] at rw0
    obtain ⟨b,vs,rfl,h1,h2,nb⟩:=rw0.tup
    exact ⟨b,vs,rfl,.inl (.inl h1),h2⟩
  · rename_i ev
    cases e
    rw[ev] at rw0
    obtain ⟨a,vs,rfl,h1,h2⟩:=rw0
    exact ⟨a,vs,rfl,.inr (.of h1),h2⟩
  · rename_i ev
    cases e
    rw[ev] at rw0
    have rw0:Rep K mg μ H (.ro xs) v:=rw0
    unfold Rep at rw0
    obtain ⟨a,vs,rfl,h1,h2⟩:=rw0
    exact ⟨a,vs,rfl,.inr h1.sq,h2⟩
  · cases e
section
variable {X:Cx} {W:WX} {a:Expr} {ta:TE} {m:ME} {p p2 q pos:Pos} {pins:List (Addr × Obj)} {s:Shared} {σ:L2.St} {H:Hp} {μ:Mu}
theorem hX {h:Heap} {i:Int} {v:V} {u:Value} (rd:Rep X.K X.mg μ H (.int i) v) (r:L2.RelV v u):NestedIs h (.num i) u:=by
  unfold Rep at rd
  subst rd
  obtain ⟨t,rfl⟩:=r
  exact .int i t
theorem wN (I:L2.Inv X pins σ H s) {ds:List D} {ks:List NestedKey} {v:V} {u:Value} (rd:Rep X.K X.mg μ H (.tup ds) v) (r:L2.RelV v u) (hall:∀vs us,RepAll X.K X.mg μ H ds vs→Vals vs us→NestedAll s.heap ks us):NestedIs s.heap (.tup ks) u:=by
  unfold Rep at rd
  obtain ⟨c,vs,rfl,ha,_,rv⟩:=rd
  cases r
  obtain ⟨its,rr,hT,_⟩:=I.tuple (.inl (.of ha))
  obtain ⟨o,ho,hc,n,hd⟩:=hT
  exact .tup ho hc hd (by simpa using hall _ _ rv rr)
theorem kH (I:L2.Inv X pins σ H s) {d e:D} {k l:NestedKey} {v:V} {u:Value} (rd:Rep X.K X.mg μ H (.tup [d,e]) v) (r:L2.RelV v u) (h1:∀v u,Rep X.K X.mg μ H d v→L2.RelV v u→NestedIs s.heap k u) (h2:∀v u,Rep X.K X.mg μ H e v→L2.RelV v u→NestedIs s.heap l u):NestedIs s.heap (.tup [k,l]) u:=
  wN I rd r fun vs us ra rv=>by
    unfold RepAll at ra
    obtain ⟨v1,r1,rfl,e1,e2⟩:=ra
    unfold RepAll at e2
    obtain ⟨v2,r2,rfl,e3,e4⟩:=e2
    unfold RepAll at e4
    subst e4
    cases rv with
    | cons a1 a2=>cases a2 with
      | cons a3 a4=>cases a4; exact .cons (h1 _ _ e1 a1) (.cons (h2 _ _ e3 a3) .nil)
theorem nest_t (I:L2.Inv X pins σ H s) (b:Bool) (t:T3) {v:V} {u:Value} (rd:Rep X.K X.mg μ H (tD b t) v) (r:L2.RelV v u):NestedIs s.heap (tK b t) u:=by
  cases b with
  | false=>exact kH I rd r (fun _ _=>hX) fun _ _=>hX
  | true=>exact kH I rd r (fun _ _=>hX) fun _ _ h r=>kH I h r (fun _ _=>hX) fun _ _=>hX
theorem dep_k (b:Bool) (t:T3):(tK b t).depth≤8:=by
  cases b<;>simp[tK,NestedKey.depth,NestedKey.depthAll]
theorem nums_k (b:Bool) (t:T3):sH (tK b t):=by
  cases b with
  | false=>exact .tup fun k hk=>by simp at hk; rcases hk with rfl|rfl<;>exact .num _
  | true=>
    refine .tup fun k hk=>?_
    have hk:k∈[NestedKey.num t.1,NestedKey.tup [NestedKey.num t.2.1,NestedKey.num t.2.2]]:=hk
    rcases List.mem_cons.mp hk with rfl|hk
    · exact .num _
    · rcases List.mem_cons.mp hk with rfl|hk
      · exact .tup fun k hk=>by simp at hk; rcases hk with rfl|rfl<;>exact .num _
      · cases hk
theorem wO {b:Bool} {t:T3} {v:V} (rd:Rep X.K X.mg μ H (tD b t) v):∃c,v=.ref c:=by
  cases b<;>(unfold tD Rep at rd; obtain ⟨c,vs,rfl,_⟩:=rd; exact ⟨c,rfl⟩)
theorem wP (I:L2.Inv X pins σ H s) (b:Bool):∀(ts:List T3) {vs:List V} {us:List Value},RepAll X.K X.mg μ H (ts.map (tD b)) vs→Vals vs us→
    ∃zs:List (Addr × T3),ts=zs.map (·.2)∧vs=zs.map (fun p=>V.ref p.1)∧us=zs.map (fun p=>Value.ref p.1)∧∀p∈zs,Rep X.K X.mg μ H (tD b p.2) (.ref p.1)∧IsN s.heap (tK b p.2) p.1∧∃as,Reads s.heap (.ref p.1) (pdF (tD b p.2)) as
  | [],vs,us,ra,rv=>by
    unfold List.map RepAll at ra
    subst ra
    cases rv
    exact ⟨[],rfl,rfl,rfl,nofun⟩
  | t::ts,vs,us,ra,rv=>by
    rw[List.map_cons] at ra
    unfold RepAll at ra
    obtain ⟨v,q,rfl,r1,r2⟩:=ra
    cases rv with
    | cons a1 a2=>
      obtain ⟨zs,e1,e2,e3,h⟩:=wP I b ts r2 a2
      obtain ⟨c,rfl⟩:=wO r1
      have n:=nest_t I b t r1 a1
      have rr:=Dp.reads I _ _ _ (fU 60 _ _ (uC b t) r1.w) a1
      cases a1
      exact ⟨(c,t)::zs,by rw[e1]; rfl,by rw[e2]; rfl,by rw[e3]; rfl,fun p hp=>by
        rcases List.mem_cons.mp hp with rfl|hp
        · exact ⟨r1,⟨n,dep_k b t,nums_k b t⟩,rr⟩
        · exact h p hp⟩
/-- what is asked of x ahead of set(x) -/
def sM (K:PySem.W.Frag) (mg:Str→Option Value) (b:Bool) (x:V) (H:Hp) (ts:List T3) (μ:Mu):Prop:=∃(l:Addr) (vs:List V),x=.ref l∧(SqT K H l vs∨SqL K H l vs)∧RepAll K mg μ H (ts.map (tD b)) vs∧(∀t∈ts,OwnK b t)∧(bJ ts).length≤305
theorem nz {v:Value} {x:V} {b:Bool} {ts:List T3} {A:Around} {E:Value→Shared→Prop} {Q:Value→Shared→Prop} (I:L2.Inv X pins σ H s) (hh:A.handled=none) (hu:A.units+65<cLine) (k:sM X.K X.mg b x H ts μ) (r:L2.RelV x v)
    (h:∀(h':Heap) (tk:Nat) (L:List El) (es:Array (Int × Value)) (ep:Nat) (t:SetTable) (N:List (Addr × T3)),SetN X.w h' s.heap.objs.size L es ep t→L.Perm (N.map fun p=>(p.1,tK b p.2))→(∀p∈N,Rep X.K X.mg μ H (tD b p.2) (.ref p.1)∧∃as,Reads h' (.ref p.1) (pdF (tD b p.2)) as)→
      N.length=(bJ ts).length→(N.map (·.2)).Nodup→(∀t,t∈N.map (·.2)↔t∈ts)→(∀b o,s.heap.get? b=some o→h'.get? b=some o)→Q (.ref s.heap.objs.size) { s with heap:=h',toks:=tk }) :
    wpAny (model X.prog X.w) A (call (.type "set") [v]) Q E s:=by
  obtain ⟨l,vs,rfl,hs,ra,ok,hn⟩:=k
  cases r
  have go:∀(its:List Value),Vals vs its→(∀(ks:List El) (D:List NestedKey),D.length≤305→(∀p∈ks,p.2∈D)→its=ks.map (fun p=>Value.ref p.1)→(∀p∈ks,IsN s.heap p.2 p.1)→
      (∀(h':Heap) (tk:Nat) (L:List El) (es:Array (Int × Value)) (ep:Nat) (t:SetTable),SetN X.w h' s.heap.objs.size L es ep t→Hd ks ks.length L→(∀b o,s.heap.get? b=some o→h'.get? b=some o)→Q (.ref s.heap.objs.size) { s with heap:=h',toks:=tk })→
      wpAny (model X.prog X.w) A (call (.type "set") [.ref l]) Q E s)→wpAny (model X.prog X.w) A (call (.type "set") [.ref l]) Q E s:=fun its rv w=>by
    obtain ⟨zs,e1,e2,e3,hz⟩:=wP I b ts ra rv
    have ok':∀p∈zs,OwnK b p.2:=fun p hp=>ok _ (by rw[e1]; exact List.mem_map.mpr ⟨p,hp,rfl⟩)
    have ln:=wL ok'
    rw[←e1] at ln
    refine w (zs.map fun p=>(p.1,tK b p.2)) ((qW b zs).map fun p=>tK b p.2) (by rw[List.length_map,ln]; exact hn) (fun q hq=>?_) (by rw[e3,List.map_map]; rfl) (fun q hq=>?_) fun h' tk L es ep t R hd kp=>?_
    · obtain ⟨p,hp,rfl⟩:=List.mem_map.mp hq
      exact jb (fun p:Addr × T3=>tK b p.2) zs [] p hp
    · obtain ⟨p,hp,rfl⟩:=List.mem_map.mp hq
      exact (hz p hp).2.1
    · have pm:=hd.pm
      rw[List.take_length] at pm
      have e:=uA (fun q:El=>q.2) (fun p:Addr × T3=>((p.1,tK b p.2):El)) zs []
      rw[List.map_nil] at e
      rw[e] at pm
      exact h h' tk L es ep t (qW b zs) R pm (fun p hp=>by
        obtain ⟨g1,g2,as,g3⟩:=hz p (mO p hp)
        exact ⟨g1,as,PySem.W.reads_keeps kp g3⟩) ln uB (fun t=>by rw[qX ok',←e1]) kp
  rcases hs with hs|hs
  · obtain ⟨its,rv,pl,hz⟩:=I.tuple hs
    exact go its rv fun ks D hD hk hit hN hQ=>SN.set_tuple ks D hD hk hh pl (by simpa using hit) hN (by omega) hQ
  · obtain ⟨its,rv,pl,hz⟩:=I.list hs
    exact go its rv fun ks D hD hk hit hN hQ=>SN.set_list ks D hD hk hh pl.isList (by simpa using hit) hN (by omega) hQ
def wQ (K:PySem.W.Frag) (mg:Str→Option Value) (b:Bool) (ta:TE):TE:=fun σ H Q=>ta σ H fun x H1=>∃ts μ,sM K mg b x H1 ts μ∧Q (.int ((bJ ts).length:Nat)) H1
theorem sN {b:Bool} (hu:X.A.units+65<cLine) (hc:X.calm=true) (hg:Gl X "len") (hm:X.mg "len"=none) (hg2:Gl X "set") (hm2:X.mg "set"=none) (ha:PE X a ta) (na:starEach [a] X.env=(false,eval a X.env)::starEach [] X.env:=by rfl) :
    PE X (.Call (.Name "len" p) [.Call (.Name "set" p2) [a] [] q] [] pos) (wQ X.K X.mg b ta):=by
  refine ⟨fun pins s σ H Q I h=>?_⟩
  refine Call_ (ld_blt I hg hm PySem.boot_len ?_)
  refine PyProof.Rows.callWith_builtin1 (PyProof.Rows.args_cons ?_ rfl) rfl rfl
  refine Call_ (ld_blt I hg2 hm2 PyProof.Rows.boot_set ?_)
  refine PyProof.Rows.callWith_type1 (PyProof.Rows.args_cons (thn (ha.run pins s σ H _ I h) fun v s1 ⟨x,H1,I1,r1,q1⟩=>PyProof.Rows.args_nil ?_) na) na rfl
  obtain ⟨ts,μ,k,q1⟩:=q1
  refine nz I1 (I1.ok.hd hc) (by have:=hu; omega) k r1 fun h' tk L es ep t N R pm rd ln nd mem kp=>?_
  refine PyProof.Rows.args_nil ?_
  obtain ⟨o,ho,hex,hd⟩:=R.ob
  have I2:Inv X pins σ H1 { s1 with heap:=h',toks:=tk }:=I1.kept kp
  have hsz:es.size=(bJ ts).length:=by rw[cp R.rows,pm.length_eq,List.length_map,ln]
  have hfew:=R.few
  have:=cp R.rows
  exact call_len_set ho hex hd (R.fits (s:={ s1 with heap:=h',toks:=tk })) (by omega) ⟨.int ((bJ ts).length:Nat),H1,I2.tok _,⟨_,by rw[hsz]⟩,q1⟩
def uc (K:PySem.W.Frag) (mg:Str→Option Value) (b:Bool) (ta:TE):TE:=fun σ H Q=>ta σ H fun x H1=>∃ts μ,sM K mg b x H1 ts μ∧∀p vs,H1 p=none→RepAll K mg μ H1 ((bJ ts).map (tD b)) vs→Q (.ref p) (upd H1 p (.lst vs))
theorem n4 {b:Bool}:∀(M:List (Addr × T3)),(∀p∈M,Rep X.K X.mg μ H (tD b p.2) (.ref p.1))→RepAll X.K X.mg μ H ((M.map (·.2)).map (tD b)) (M.map fun p=>V.ref p.1)
  | [],_=>by unfold List.map List.map RepAll; rfl
  | p::M,h=>.cons (h p List.mem_cons_self) (n4 M fun q hq=>h q (List.mem_cons_of_mem _ hq))
theorem uD:∀(M:List (Addr × T3)),Vals (M.map fun p=>V.ref p.1) (M.map fun p=>Value.ref p.1)
  | []=>.nil
  | p::M=>.cons rfl (uD M)
theorem qb {b:Bool} (hu:X.A.units+65<cLine) (hc:X.calm=true) (hg:Gl X "sorted") (hm:X.mg "sorted"=none) (hg2:Gl X "set") (hm2:X.mg "set"=none) (ha:PE X a ta) (na:starEach [a] X.env=(false,eval a X.env)::starEach [] X.env:=by rfl) :
    PE X (.Call (.Name "sorted" p) [.Call (.Name "set" p2) [a] [] q] [] pos) (uc X.K X.mg b ta):=by
  refine ⟨fun pins s σ H Q I h=>?_⟩
  refine Call_ (ld_blt I hg hm e8 ?_)
  refine PyProof.Rows.callWith_builtin1 (PyProof.Rows.args_cons ?_ rfl) rfl rfl
  refine Call_ (ld_blt I hg2 hm2 PyProof.Rows.boot_set ?_)
  refine PyProof.Rows.callWith_type1 (PyProof.Rows.args_cons (thn (ha.run pins s σ H _ I h) fun v s1 ⟨x,H1,I1,r1,q1⟩=>PyProof.Rows.args_nil ?_) na) na rfl
  obtain ⟨ts,μ,k,q1⟩:=q1
  refine nz I1 (I1.ok.hd hc) (by have:=hu; omega) k r1 fun h' tk L es ep t N R pm rd ln nd mem kp=>?_
  refine PyProof.Rows.args_nil ?_
  have I2:Inv X pins σ H1 { s1 with heap:=h',toks:=tk }:=I1.kept kp
  have hfew:=R.few
  have hL:=pm.length_eq
  rw[List.length_map] at hL
  generalize hs2:({ s1 with heap:=h',toks:=tk }:Shared)=s2 at *
  have R:SetN X.w s2.heap s1.heap.objs.size L es ep t:=hs2▸R
  have rd:∀p∈N,Rep X.K X.mg μ H1 (tD b p.2) (.ref p.1)∧∃as,Reads s2.heap (.ref p.1) (pdF (tD b p.2)) as:=hs2▸rd
  refine qZ R (I2.ok.hd hc) (by omega) pm (fun p hp=>(rd p hp).2) fun s' p out c M kp2 g o hp hgt hi pM pw=>?_
  have hn:H1 p=none:=I2.hok.fresh hp
  have e:bJ ts=M.map (·.2):=by
    have ndM:(M.map (·.2)).Nodup:=(pM.map (·.2)).nodup_iff.mpr nd
    refine qU ?_ fun t=>((pM.map (·.2)).mem_iff).trans (mem t)
    have ok:=k.choose_spec.choose_spec.2.2.2.1
    unfold Inc
    refine List.pairwise_map.mpr (List.Pairwise.imp_of_mem (fun {q r} hq hr h=>?_) (pw.and (List.pairwise_map.mp ndM)))
    obtain ⟨h1,h2⟩:=h
    rw[ny] at h1
    cases b with
    | true=>exact om h1 h2
    | false=>
      have z:∀q∈M,q.2.1=0:=fun q hq=>by
        have:=ok q.2 ((mem q.2).mp (List.mem_map.mpr ⟨q,pM.mem_iff.mp hq,rfl⟩))
        rw[←this]; rfl
      refine om ?_ h2
      have hz1:=z q hq
      have hz2:=z r hr
      simp only[Bool.false_eq_true,if_false] at h1
      rw[←h1]
      obtain ⟨_,q1,q2,q3⟩:=q
      obtain ⟨_,r1,r2,r3⟩:=r
      simp at hz1 hz2
      subst hz1 hz2
      rfl
  have hlen:(M.map fun p=>V.ref p.1).length≤sizeLine:=by rw[List.length_map,pM.length_eq,sizeLine_eq]; omega
  have J:Inv X pins σ (upd H1 p (.lst (M.map fun p=>V.ref p.1))) { s2 with heap:=s'.heap,gens:=s'.gens,drawn:=s'.drawn,toks:=s'.toks }:=
    I2.call (ch:=[]) (Un.laid kp2 hp hn) (I2.hok.laid kp2 hp ⟨hlen,out.toList,c,by rw[hi]; exact uD M,hgt⟩) (by rw[g]; exact I2.bare) (fun _ z=>nomatch z)
  have e2:s'={ s2 with heap:=s'.heap,gens:=s'.gens,drawn:=s'.drawn,toks:=s'.toks }:=by
    cases s'
    cases s2
    cases o
    rfl
  rw[e2]
  exact ⟨.ref p,_,J,rfl,q1 p _ hn (by rw[e]; exact n4 M fun q hq=>(rd q (pM.mem_iff.mp hq)).1)⟩
def jc (b:Bool) (m:ME):ME:=fun env S=>(m env S).bind fun d S=>match iX S d with
  | some ds=>match gj b ds with
    | some ts=>if (bJ ts).length≤305 then .ok (.int ((bJ ts).length:Nat)) S else .stuck
    | none=>.stuck
  | none=>.stuck
theorem sO (b:Bool) (hu:X.A.units+65<cLine) (hc:X.calm=true) (hg:Gl X "len") (hm:X.mg "len"=none) (hg2:Gl X "set") (hm2:X.mg "set"=none) (ha:PE X a (tE X W m)) (na:starEach [a] X.env=(false,eval a X.env)::starEach [] X.env:=by rfl) :
    PE X (.Call (.Name "len" p) [.Call (.Name "set" p2) [a] [] q] [] pos) (tE X W (jc b m)):=
  bt (sN (b:=b) hu hc hg hm hg2 hm2 ha na) fun σ H Q ⟨env,S,μ,rl,o⟩=>⟨env,S,μ,rl,(Out.bind o).mono fun x H1 ⟨μ1,S1,d,st,rs,rd,o1⟩=>by
    split at o1
    · rename_i ds ev
      obtain ⟨c,vs,rfl,h1,h2⟩:=qa rs rd ev
      split at o1
      · rename_i ts ex
        split at o1
        · rename_i hn
          obtain ⟨e1,e2⟩:=i4 ex
          subst e1
          exact ⟨ts,μ1,⟨c,vs,rfl,h1,h2,e2,hn⟩,o1 μ1 H1 _ .refl rs (bB _)⟩
        · exact o1.elim
      · exact o1.elim
    · exact o1.elim⟩
def iO (b:Bool) (m:ME):ME:=fun env S=>(m env S).bind fun d S=>match iX S d with
  | some ds=>match gj b ds with
    | some ts=>if (bJ ts).length≤305 then .ok (.lst ((bJ ts).map (tD b))) S else .stuck
    | none=>.stuck
  | none=>.stuck
theorem qc (b:Bool) (hu:X.A.units+65<cLine) (hc:X.calm=true) (hg:Gl X "sorted") (hm:X.mg "sorted"=none) (hg2:Gl X "set") (hm2:X.mg "set"=none) (ha:PE X a (tE X W m)) (na:starEach [a] X.env=(false,eval a X.env)::starEach [] X.env:=by rfl) :
    PE X (.Call (.Name "sorted" p) [.Call (.Name "set" p2) [a] [] q] [] pos) (tE X W (iO b m)):=
  bt (qb (b:=b) hu hc hg hm hg2 hm2 ha na) fun σ H Q ⟨env,S,μ,rl,o⟩=>⟨env,S,μ,rl,(Out.bind o).mono fun x H1 ⟨μ1,S1,d,st,rs,rd,o1⟩=>by
    split at o1
    · rename_i ds ev
      obtain ⟨c,vs,rfl,h1,h2⟩:=qa rs rd ev
      split at o1
      · rename_i ts ex
        split at o1
        · rename_i hn
          obtain ⟨e1,e2⟩:=i4 ex
          subst e1
          exact ⟨ts,μ1,⟨c,vs,rfl,h1,h2,e2,hn⟩,fun p us hp ra=>o1 μ1 _ _ (.of_sm (.upd hp)) (rs.sm (.upd hp)) (cA rs hp ra)⟩
        · exact o1.elim
      · exact o1.elim
    · exact o1.elim⟩
end
@[simp] theorem yo (b:Bool) (m:ME) (env:En) (S:Sto):jc b m env S=(m env S).bind fun d S=>match iX S d with
  | some ds=>match gj b ds with
    | some ts=>if (bJ ts).length≤305 then .ok (.int ((bJ ts).length:Nat)) S else .stuck
    | none=>.stuck
  | none=>.stuck:=rfl
@[simp] theorem yG (b:Bool) (m:ME) (env:En) (S:Sto):iO b m env S=(m env S).bind fun d S=>match iX S d with
  | some ds=>match gj b ds with
    | some ts=>if (bJ ts).length≤305 then .ok (.lst ((bJ ts).map (tD b))) S else .stuck
    | none=>.stuck
  | none=>.stuck:=rfl
section
variable {E:XV→Sto→Prop}
@[simp ↓] theorem yp (b:Bool) (m:ME) (env:En) (S:Sto) {Q:D→Sto→Prop}:Res.wp (jc b m env S) Q E=Res.wp ((m env S).bind fun d S=>match iX S d with
  | some ds=>match gj b ds with
    | some ts=>if (bJ ts).length≤305 then .ok (.int ((bJ ts).length:Nat)) S else .stuck
    | none=>.stuck
  | none=>.stuck) Q E:=rfl
@[simp ↓] theorem yH (b:Bool) (m:ME) (env:En) (S:Sto) {Q:D→Sto→Prop}:Res.wp (iO b m env S) Q E=Res.wp ((m env S).bind fun d S=>match iX S d with
  | some ds=>match gj b ds with
    | some ts=>if (bJ ts).length≤305 then .ok (.lst ((bJ ts).map (tD b))) S else .stuck
    | none=>.stuck
  | none=>.stuck) Q E:=rfl
end
end DL
namespace DL
open PySem PySem.Spec PyProof.Rows L2
section
variable {X:Cx} {W:WX} {e tg iter elt kx vx:Expr} {pos:Pos} {g:MG} {m mk mv:ME} {mi:MI} {tc:MT} {vs:List Nat}
theorem ue {own:List (Str × Nat)} {σ:L2.St} {H:Hp} {Q:VK} (h:tE X W (lw mi g tc m (own.map (·.2))) σ H Q):tLc (tI X W mi) (tGc X (own.map (·.2)) g) (tT X W0 tc) (tE X W0 m) (own.map (·.2)) σ H Q:=by
  obtain ⟨env,S,μ,rl,o⟩:=h
  exact yB (F:=fun ds S=>.ok (.loc S.length) (S++[O.lst ds])) rl (show Out _ _ _ _ _ _ _ _ ((fy mi g tc m (own.map (·.2)) env S).bind _) from o) fun μ1 H1 S1 p μ2 H2 S2 acc us rs hp sp rs2 hp2 ra o=>by
      have sh:Stp μ1 H1 (μ1.hide p) (upd H1 p (.lst [])):=.new_hid hp
      have hid2:μ2.h=p::μ1.h:=sp.hid
      have np:p∉μ2.l:=fun z=>rs2.dis p z (by rw[hid2]; exact List.mem_cons_self)
      have mem:∀a,a∈(⟨μ2.l++[p],μ1.h⟩:Mu)↔a∈μ2:=fun a=>by
        show (a∈μ2.l++[p]∨a∈μ1.h)↔(a∈μ2.l∨a∈μ2.h)
        rw[hid2,List.mem_append,List.mem_singleton,List.mem_cons]
        exact ⟨fun h=>h.elim (fun h=>h.elim .inl fun h=>.inr (.inl h)) fun h=>.inr (.inr h),fun h=>h.elim (fun h=>.inl (.inl h)) fun h=>h.elim (fun h=>.inl (.inr h)) .inr⟩
      have s2:Stp μ2 H2 ⟨μ2.l++[p],μ1.h⟩ H2:=⟨⟨⟨[p],rfl⟩,fun a ha=>.inl ((mem a).mp ha),fun _ _ h _ _=>h⟩,fun _ _ _ h=>h⟩
      have st:Step μ1 H1 ⟨μ2.l++[p],μ1.h⟩ H2:=⟨(sh.trans sp.toStp).trans s2,rfl,fun a u ha e nt=>sp.hk a u (ne_of_none e hp) (List.mem_cons_of_mem _ ha) (by rw[upd_ne (ne_of_none e hp)]; exact e) nt⟩
      refine o ⟨μ2.l++[p],μ1.h⟩ H2 (.ref p) st ⟨by simp[rs2.len],List.nodup_append.mpr ⟨rs2.nd,by simp,fun a ha b hb=>?_⟩,fun a ha=>?_,fun a ha=>rs2.hid a (by rw[hid2]; exact List.mem_cons_of_mem _ ha),fun l u e=>?_,rs2.tab⟩ ?_
      · have:b=p:=by simpa using hb
        subst this
        exact fun z=>np (z▸ha)
      · rcases List.mem_append.mp ha with h|h
        · exact fun z=>rs2.dis a h (by rw[hid2]; exact List.mem_cons_of_mem _ z)
        · have:a=p:=by simpa using h
          subst this
          exact rs.notinH hp
      · by_cases hl:l<S2.length
        · rw[List.getElem?_append_left hl] at e
          obtain ⟨a,h1,h2⟩:=rs2.at_ l u e
          exact ⟨a,s2.get h1,h2.step s2 fun w q=>q⟩
        · rw[List.getElem?_append_right (by omega)] at e
          have hl2:l - S2.length=0:=by
            have:=(List.getElem?_eq_some_iff.mp e).1
            simp at this; omega
          rw[hl2] at e
          simp at e
          subst e
          have:l=S2.length:=by omega
          subst this
          exact ⟨p,by rw[rs2.len]; simp,us,hp2,RepAll.stp s2 _ _ ra⟩
      · unfold Rep
        exact ⟨p,rfl,by rw[rs2.len]; simp⟩
theorem qd {i:Nat} {y:Str} {py spos:Pos} {scope:Scope} {own:List (Str × Nat)} {ifs:List Expr} (hc:X.calm=true) (hN:X.N.Nodup) (hy:X.N[i]?=some y) (hyl:X.env.scope.names.lookup y=some .local)
    (hsw:swapsWith (.ListComp elt [⟨tg,iter,ifs,0⟩] scope pos) (some (.Name y py)) spos.line X.env=pure true) (hi:PI X tg iter (tI X W mi)) (ok:BlkOk X.N X.env.scope scope own)
    (hg:∀(s:Shared) (H:Hp) (C:Addr) (cl:List (Str × Addr)) (fp:List Addr),PG (X.blk s H scope (compEnvC scope cl C X.env) fp) tg (tGc (X.blk s H scope (compEnvC scope cl C X.env) fp) (own.map (·.2)) g))
    (ht:∀(s:Shared) (H:Hp) (C:Addr) (cl:List (Str × Addr)) (fp:List Addr),oW (X.blk s H scope (compEnvC scope cl C X.env) fp) ifs tc)
    (he:∀(s:Shared) (H:Hp) (C:Addr) (cl:List (Str × Addr)) (fp:List Addr),PE (X.blk s H scope (compEnvC scope cl C X.env) fp) elt (tE (X.blk s H scope (compEnvC scope cl C X.env) fp) W0 m)) (hs:∀x,foldedSetIterable iter X.env x=pure x:=by intro _; rfl) :
    PS X (.Assign [.Name y py] (.ListComp elt [⟨tg,iter,ifs,0⟩] scope pos) spos) (tS X W (bw i (lw mi g tc m (own.map (·.2))))):=
  fB (ps_setLc (g:=tGc X (own.map Prod.snd) g) (tt:=tT X W0 tc) (te:=tE X W0 m) hc hN hy hyl hsw hi ok hg ht he hs) fun D σ H ⟨env,S,μ,rl,o⟩=>
    ue ⟨env,S,μ,rl,(OutS.rs rl.env o).mono fun x H1 ⟨μ1,S1,d,st,rs,r,o1⟩=>o1 μ1 H1 _ .refl ((rl.env.step st).set r) rs⟩
end
section
variable {prog:Program} {w:World} {A:Around} {E:Value→Shared→Prop} {s:Shared} {K:Type} [DecidableEq K] {knd:HeapKind prog w K}
theorem jd {d a:Addr} {xs:List (K × Addr × Value)} {k:K} {v:Value} {Q:Unit→Shared→Prop} (hu:knd.room A) (hkey:knd.is s.heap k a) (hm:s.heap.DictOfH knd d xs)
    (hQ:∀h',h'.DictOfH knd d (storedH xs k a v)→Heap.SameBut d s.heap h'→Q () { s with heap:=h',toks:=s.toks+knd.draws k }) (hsz:xs.length≤sizeLine):wpAny (model prog w) A (dictSet d (.ref a) v) Q E s:=by
  unfold dictSet
  try with_reducible refine wpAny_holding ?_
  refine wpAny_bind (knd.pyHash hu hkey ?_)
  exact wpAny_dictSetHashed_heap (s:={ s with toks:=s.toks+knd.draws k }) hu hkey hm hQ hsz
end
theorem sP {X:Cx} {pins:List (Addr × Obj)} {σ:L2.St} {H:Hp} {s:Shared} {E:Value→Shared→Prop} {D b:Addr} {kvs:List (List L2.Key × V)} {k:List L2.Key} {v:V} {r:Value} {Q:Unit→Shared→Prop} (hu:X.A.units+65<cLine) (I:L2.Inv X pins σ H s) (hD:H D=some (.dT kvs)) (hz:kvs.length<sizeLine)
    (eb:H b=some (.tup (k.map kV))) (rv:L2.RelV v r) (h:∀s',L2.Inv X pins σ (upd H D (.dT (putK kvs k v))) s'→Q () s'):wpAny (model X.prog X.w) X.A (dictSet D (.ref b) r) Q E s:=by
  obtain ⟨z,hd,xs,rel,dd⟩:=dt_of I.hok hD
  have hz:xs.length≤sizeLine:=by rw[←Paired.length rel]; exact z
  have hl:(putK kvs k v).length≤sizeLine:=by have:=length_putK kvs k v; omega
  refine jd (knd:=tupleKind (mixKind X.prog X.w)) (by show X.A.units<cLine; omega) (key_of I.hok eb) dd (fun h' dd' hs=>h _ ?_) hz
  obtain ⟨q,es,ep,hq,h2,h3,h4,_,h5⟩:=dd'
  refine d_write I (by rw[hD]; exact True.intro) hs ⟨q,hq⟩ ⟨hl,hd,_,(rel.put k eb rv).keeps fun c ys ec=>?_,q,es,ep,hq,h2,h3,h4,h5⟩
  rw[upd_ne (ne_of ec hD (fun z=>nomatch z))]
  exact ec
section
variable {X:Cx}
/-- {k: v for target in iter if ..},keys ints or texts: D the new dict -/
def tDcT (wi:TI) (g:TG) (tt:TT) (tk tv:TE) (vs:List Nat):TE:=fun σ H Q=>wi σ H fun J H1=>∀D,H1 D=none→∃W:Nat→Nat→Hp→Prop,(∃m,W 0 m (upd H1 D (.dT [])))∧∀i m H,W i m H→
  (J.stop i H∧Q (.ref D) H)∨(J.go i H∧∃Nx:Hp→Prop,(∀H',Nx H'→∃m',m'<m∧W (i+1) m' H')∧∀x H',J.yld i H x H'→g x (wipe σ vs) H' fun σ2 H2=>wipe σ2 vs=wipe σ vs∧tt σ2 H2 fun b H3=>
    if b=true then tk σ2 H3 fun y H4=>tv σ2 H4 fun z H5=>∃kvs k b,y=.ref b∧H5 b=some (.tup (k.map kV))∧H5 D=some (.dT kvs)∧kvs.length<sizeLine∧Nx (upd H5 D (.dT (putK kvs k z))) else Nx H3)
theorem wR {pins:List (Addr × Obj)} {s:Shared} {σ:L2.St} {H:Hp} {Q:VK} {kx vx tg iter:Expr} {ifs:List Expr} {scope:Scope} {own:List (Str × Nat)} {pos pos':Pos} {wi:TI} {g:TG} {tt:TT} {tk tv:TE} {use:Option (Value→Sem Unit)} {Qf:Value→Shared→Prop}
    (hu:X.A.units+65<cLine) (hc:X.calm=true) (hN:X.N.Nodup) (I:L2.Inv X pins σ H s) (hi:PI X tg iter wi) (ok:BlkOk X.N X.env.scope scope own)
    (hg:∀(s:Shared) (H:Hp) (C:Addr) (cl:List (Str × Addr)) (fp:List Addr),PG (X.blk s H scope (compEnvC scope cl C X.env) fp) tg g) (ht:∀(s:Shared) (H:Hp) (C:Addr) (cl:List (Str × Addr)) (fp:List Addr),PTs (X.blk s H scope (compEnvC scope cl C X.env) fp) ifs tt)
    (hk:∀(s:Shared) (H:Hp) (C:Addr) (cl:List (Str × Addr)) (fp:List Addr),PE (X.blk s H scope (compEnvC scope cl C X.env) fp) kx tk)
    (he:∀(s:Shared) (H:Hp) (C:Addr) (cl:List (Str × Addr)) (fp:List Addr),PE (X.blk s H scope (compEnvC scope cl C X.env) fp) vx tv) (hs:∀x,foldedSetIterable iter X.env x=pure x)
    (h:tDcT wi g tt tk tv (own.map (·.2)) σ H Q)
    (hRR:∀D C s' m H',Inv X pins σ H' s'→Q (.ref D) H'→s'.heap.Ns C m→FpOk X pins H' C→compPost (model X.prog X.w) X.A X.xe use Qf (.ref D) C (.ok .next) s') :
    wpAny (model X.prog X.w) X.A (comprehension (.DictComp kx vx [⟨tg,iter,ifs,0⟩] scope pos) scope X.env pos' newDict false (eval iter X.env) use) Qf X.xe s:=by
  have hfree:∀y∈scope.names,y.2=.free→∃c,X.env.cells.lookup y.1=some c:=fun y hy e=>by
    rcases ok.free y hy e with k|k
    · exact I.ok.has _ (.inl k)
    · exact I.ok.has _ (.inr k)
  refine wpAny_comprehension_free (use:=use) rfl hs (closure_ok hfree) ok.kind (fun y hy e=>by rw[ok.uniq y hy,e])
    (thn (hi.run pins s σ H _ I h) fun xv s1 hx=>thn hx fun itv s2 h2=>?_)
  obtain ⟨it,fp,tn,J,H2,e,I2,T,st2,f2,q⟩:=h2
  subst e
  refine wpAny_newObj_type (newEnv_comp ?_)
  generalize hD:s2.heap.objs.size=D
  have hDn:H2 D=none:=I2.hok.fresh (Nat.le_of_eq hD)
  obtain ⟨W,⟨m0,w0⟩,turn⟩:=q D hDn
  -- the new list
  generalize hs3:({ s2 with heap:=s2.heap.push { cls:=.type "dict",data:=.dict #[] } }:Shared)=s3
  have I3:Inv X pins σ (upd H2 D (.dT [])) s3:=by
    rw[←hs3]
    refine I2.laid (t':=s2.toks) (fun b o e=>Heap.get?_push_of_some _ e) (Nat.le_of_eq hD) ?_
    rw[←hD]
    exact dt_empty s2.heap I2.big
  have h3:s3.heap=s2.heap.push { cls:=.type "dict",data:=.dict #[] }:=by rw[←hs3]
  have sz:∀b∈fp,b<s2.heap.objs.size:=fun b hb=>by
    obtain ⟨o,e,_⟩:=T.obj _ _ st2 b hb
    exact Heap.lt_size e
  have f3:∀b∈fp,FpOk X pins (upd H2 D (.dT [])) b∧b<s3.heap.objs.size:=fun b hb=>by
    have hlt:=sz b hb
    refine ⟨⟨?_,(f2 b hb).2⟩,by rw[h3,Heap.size_push]; exact Nat.lt_succ_of_lt hlt⟩
    rw[upd_ne (by rw[←hD]; exact Nat.ne_of_lt hlt)]
    exact (f2 b hb).1
  have st3:tn 0 s3.heap:=T.keep _ _ _ st2 fun b _ o e=>by rw[h3]; exact Heap.get?_push_of_some _ e
  have I4:=block_start I3 ok hN f3
  have pg:=hg s3 (upd H2 D (.dT [])) s3.heap.objs.size (cellsFrom (s3.heap.objs.size+1) scope.names (cloFrom X.env.cells scope.names [])) fp
  have pt:=ht s3 (upd H2 D (.dT [])) s3.heap.objs.size (cellsFrom (s3.heap.objs.size+1) scope.names (cloFrom X.env.cells scope.names [])) fp
  have pk:=hk s3 (upd H2 D (.dT [])) s3.heap.objs.size (cellsFrom (s3.heap.objs.size+1) scope.names (cloFrom X.env.cells scope.names [])) fp
  have pe:=he s3 (upd H2 D (.dT [])) s3.heap.objs.size (cellsFrom (s3.heap.objs.size+1) scope.names (cloFrom X.env.cells scope.names [])) fp
  show codeAny _ _ (.compStart (.DictComp kx vx [⟨tg,iter,ifs,0⟩] scope pos) 0 (.ref it) (.ref D) (compEnvC scope (cellsFrom (s3.heap.objs.size+1) scope.names (cloFrom X.env.cells scope.names [])) s3.heap.objs.size X.env)) (compPost (model X.prog X.w) X.A X.xe use Qf (.ref D) s3.heap.objs.size) { s3 with heap:=pushCells (s3.heap.push { cls:=.type "dict",data:=.dict #[] }) scope.names }
  have nfp:∀b∈fp,(upd H2 D (.dT [])) b=none:=fun b hb=>(f3 b hb).1.1
  generalize hce:compEnvC scope (cellsFrom (s3.heap.objs.size+1) scope.names (cloFrom X.env.cells scope.names [])) s3.heap.objs.size X.env=ce at I4 pg pt pk pe ⊢
  have cL:ce.locals=s3.heap.objs.size:=by subst hce; rfl
  generalize hH3:upd H2 D (.dT [])=H3 at I3 I4 pg pt pk pe w0 nfp f3
  generalize hs4:({ s3 with heap:=pushCells (s3.heap.push { cls:=.type "dict",data:=.dict #[] }) scope.names }:Shared)=s4 at I4 ⊢
  have st4:tn 0 s4.heap:=T.keep _ _ _ st3 fun b _ o e=>by rw[←hs4]; exact pushCells_keeps _ _ _ _ (Heap.get?_push_of_some _ e)
  have stat:∀ {σ':L2.St} {H':Hp} {s':Shared},Inv (X.blk s3 H3 scope ce fp) [] σ' H' s'→(∀b∈fp,H' b=none)→∀b∈fp,FpOk (X.blk s3 H3 scope ce fp) [] H' b:=fun {σ' H' s'} I' hn b hb=>
    ⟨hn b hb,(I'.ok.exf b hb).1,I'.ok.exfs b hb,.inl hb,fun x c e=>(I'.ok.exf b hb).2 x c e,fun p hp=>absurd (show p∈([]:List (Addr × Obj))++[] from hp) (by simp)⟩
  have loop:codeAny (model X.prog X.w) X.A (.compLoop (.DictComp kx vx [⟨tg,iter,ifs,0⟩] scope pos) 0 (.ref it) (.ref D) ce) (compPost (model X.prog X.w) X.A X.xe use Qf (.ref D) s3.heap.objs.size) s4:=by
    refine compLoop_anyD (fun n s'=>∃i H',Inv (X.blk s3 H3 scope ce fp) [] (wipe σ (own.map (·.2))) H' s'∧tn i s'.heap∧(∀b∈fp,H' b=none)∧W i n H') ?_ m0 ⟨0,H3,I4,st4,nfp,w0⟩
    rintro n s5 ⟨i,H5,I5,st5,n5,w5⟩
    rcases turn i n H5 w5 with ⟨stop,qq⟩|⟨go,Nx,hNx,step⟩
    · have td:=T.done (X.blk s3 H3 scope ce fp) rfl rfl rfl hc i [] s5 _ H5 (fun _ _=>False) I5 (stat I5 n5) st5 stop
      refine thnF td fun r s6 ⟨hr,I6⟩=>?_
      subst hr
      -- back in the def's context
      have I7:Inv X pins σ H5 s6:=I3.call' (ch:=fp) I6.os I6.base I6.hok I6.bare fun b hb=>⟨(f3 b hb).1.2.2.2.1,(f3 b hb).1.2.1,(f3 b hb).1.2.2.2.2.1,(f3 b hb).1.2.2.2.2.2⟩
      have nC:H5 s3.heap.objs.size=none:=by
        have z:H5 ce.locals=none:=I6.free
        rw[cL] at z
        exact z
      obtain ⟨m,hn,_⟩:=I6.loc
      have hn:s6.heap.Ns ce.locals m:=hn
      rw[cL] at hn
      exact hRR D s3.heap.objs.size s6 m H5 I7 qq hn (I3.fpOk (Nat.le_refl _) nC)
    · have ti:=T.item (X.blk s3 H3 scope ce fp) rfl rfl rfl hc i [] s5 _ H5 (fun _ _=>False) I5 (stat I5 n5) st5 go
      refine thnF ti fun r s6 ⟨u,hr,h6⟩=>?_
      subst hr
      refine thnF h6 fun _ s7 ⟨x,H7,I7,r7,y7,st7,n7⟩=>?_
      have I7':=I7.pinned (stat I7 n7) (T.obj _ _ st7)
      refine thnF (pg.run _ s7 _ H7 x u _ I7' r7 (step x H7 y7)) fun _ s8 ⟨σ8,H8,I8,hw8,q8⟩=>?_
      refine thnF (pt.run _ s8 σ8 H8 _ I8 q8) fun b s9 ⟨H9,I9,q9⟩=>?_
      -- the turn's end
      have fin:∀ {s':Shared} {H':Hp},Inv (X.blk s3 H3 scope ce fp) ([]++pinsAt fp s7.heap) σ8 H' s'→Nx H'→∃m,m<n∧∃i H',Inv (X.blk s3 H3 scope ce fp) [] (wipe σ (own.map (·.2))) H' s'∧tn i s'.heap∧(∀b∈fp,H' b=none)∧W i m H':=fun {s' H'} I' nx=>by
        obtain ⟨m',hm,w'⟩:=hNx H' nx
        have pin':∀b∈fp,∀o,s7.heap.get? b=some o→s'.heap.get? b=some o∧H' b=none:=fun b hb o e=>
          let z:=I'.pin (b,o) (List.mem_append_right _ (List.mem_append_right _ (mem_pinsAt hb e)))
          ⟨z.1,z.2.1⟩
        have hl:(wipe σ (own.map (·.2))).length=σ8.length:=by rw[←hw8,wipe_length]
        refine ⟨m',hm,i+1,H',(I'.unpinned (pins:=[])).weak hl (fun j v e=>?_),T.keep _ _ _ st7 fun b hb o e=>(pin' b hb o e).1,fun b hb=>?_,w'⟩
        · rw[←hw8] at e
          exact (wipe_some e).1
        · obtain ⟨o,e,_⟩:=T.obj _ _ st7 b hb
          exact (pin' b hb o e).2
      cases b with
      | false=>
        simp only[Bool.false_eq_true,if_false] at q9 ⊢
        exact fin I9 q9
      | true=>
        simp only[if_true] at q9 ⊢
        refine thnF (pk.run _ s9 σ8 H9 _ I9 q9) fun z s10 ⟨yk,H10,I10,r10,q10⟩=>?_
        refine thnF (pe.run _ s10 σ8 H10 _ I10 q10) fun z2 s11 ⟨yv,H11,I11,r11,kvs,k,kb,ek,hb11,hD11,hz11,nx⟩=>?_
        subst ek
        cases (show z=Value.ref kb from r10)
        exact sP (X:=X.blk s3 H3 scope ce fp) hu I11 hD11 hz11 hb11 r11 fun s12 I12=>fin I12 nx
  exact codeAny_compStart_dict loop (T.self X.A 0 _ _ _ st4 loop)
/-- as a value -/
theorem pe_dcT {kx vx tg iter:Expr} {ifs:List Expr} {scope:Scope} {own:List (Str × Nat)} {pos:Pos} {wi:TI} {g:TG} {tt:TT} {tk tv:TE} (hu:X.A.units+65<cLine) (hc:X.calm=true) (hN:X.N.Nodup) (hi:PI X tg iter wi) (ok:BlkOk X.N X.env.scope scope own)
    (hg:∀(s:Shared) (H:Hp) (C:Addr) (cl:List (Str × Addr)) (fp:List Addr),PG (X.blk s H scope (compEnvC scope cl C X.env) fp) tg g) (ht:∀(s:Shared) (H:Hp) (C:Addr) (cl:List (Str × Addr)) (fp:List Addr),PTs (X.blk s H scope (compEnvC scope cl C X.env) fp) ifs tt)
    (hk:∀(s:Shared) (H:Hp) (C:Addr) (cl:List (Str × Addr)) (fp:List Addr),PE (X.blk s H scope (compEnvC scope cl C X.env) fp) kx tk)
    (he:∀(s:Shared) (H:Hp) (C:Addr) (cl:List (Str × Addr)) (fp:List Addr),PE (X.blk s H scope (compEnvC scope cl C X.env) fp) vx tv) (hs:∀x,foldedSetIterable iter X.env x=pure x:=by intro _; rfl) :
    PE X (.DictComp kx vx [⟨tg,iter,ifs,0⟩] scope pos) (tDcT wi g tt tk tv (own.map (·.2))):=by
  refine ⟨fun pins s σ H Q I h=>?_⟩
  rw[arm_eval_DictComp]
  refine wR hu hc hN I hi ok hg ht hk he hs h fun D C s' m H' I' q hn f=>⟨m,hn,fun h'' sb=>?_⟩
  obtain ⟨f0,f1,f2,f3,f4,f5⟩:=f
  exact ⟨.ref D,H',I'.turned (t':=s'.toks) (fun b o hb e=>(sb.2 b hb).trans e) f0 f1 f3 f4 f5,rfl,q⟩
end
section
variable {X:Cx} {W:WX} {e tg iter elt kx vx:Expr} {pos:Pos} {g:MG} {m mk mv:ME} {mi:MI} {tc:MT} {vs:List Nat}
def gS (g:MG) (tc:MT) (mk mv:ME) (w:En) (d:D) (acc:List (D × D)) (S:Sto):Res (List (D × D)):=match g d w S with
  | none=>.stuck
  | some p=>(tc p.1 p.2).bindS fun c S2=>if c=true then (mk p.1 S2).bindS fun k S3=>(mv p.1 S3).bindS fun v S4=>if cB true k=true∧acc.length<1000000 then .ok (gR true acc k v) S4 else .stuck else .ok acc S2
def fZ (g:MG) (tc:MT) (mk mv:ME) (w:En):List D→List (D × D)→Sto→Res (List (D × D))
  | [],acc,S=>.ok acc S
  | d::ds,acc,S=>(gS g tc mk mv w d acc S).bindS fun acc S=>fZ g tc mk mv w ds acc S
def cW (g:MG) (tc:MT) (mk mv:ME) (w:En) (l:Nat):Nat→Nat→List (D × D)→Sto→Res (List (D × D))
  | 0,_,_,_=>.stuck
  | n+1,i,acc,S=>match S[l]? with
    | some (.lst xs)=>match xs[i]? with
      | none=>.ok acc S
      | some d=>(gS g tc mk mv w d acc S).bindS fun acc S=>cW g tc mk mv w l n (i+1) acc S
    | _=>.stuck
/-- a dict laid -/
def kDT:List (D × D)→Sto→Res D:=fun kvs S=>.ok (.loc S.length) (S++[.dct true kvs])
def iP (mi:MI) (g:MG) (tc:MT) (mk mv:ME) (vs:List Nat):ME:=fun env S=>(mi env S).bind fun it S=>match it with
  | .items ds=>(fZ g tc mk mv (ao env vs) ds [] S).bind kDT
  | .live l=>(cW g tc mk mv (ao env vs) l (cy S l+1) 0 [] S).bind kDT
  | .liveE _=>.stuck
/-- a dict that is being made -/
def sQ (K:PySem.W.Frag) (mg:Str→Option Value) (μ:Mu) (H:Hp) (p:Addr) (acc:List (D × D)):Prop:=∃(ks:List (List L2.Key)) (vs:List V),H p=some (.dT (ks.zip vs))∧acc.map (·.1)=ks.map fT∧RepAll K mg μ H (acc.map (·.2)) vs
theorem qe {W:WX} {vs:List Nat} {σ:L2.St} {w:En} {p:Addr} {Q:V→Hp→Prop} {μ1 μ2:Mu} {H1 H2:Hp} {S2:Sto} {d:D} {x:V} {acc:List (D × D)} {N:Hp→Prop} {f:List (D × D)→Sto→Res D}
    (re:RelE X.K X.mg μ2 H2 w (L2.wipe σ vs)) (rs:RelS X.K X.mg μ2 H2 S2) (hp:sQ X.K X.mg μ2 H2 p acc) (np:p∈μ2.h) (rx:Rep X.K X.mg μ2 H2 d x)
    (o:Out X.K X.mg W σ μ1 H1 (fun μ H a b=>Rep X.K X.mg μ H a b) Q ((gS g tc mk mv w d acc S2).bindS f))
    (hN:∀μ3 H3 S3 acc',StP p μ2 H2 μ3 H3→RelS X.K X.mg μ3 H3 S3→sQ X.K X.mg μ3 H3 p acc'→Out X.K X.mg W σ μ1 H1 (fun μ H a b=>Rep X.K X.mg μ H a b) Q (f acc' S3)→N H3) :
    tGc X vs g x (L2.wipe σ vs) H2 fun σ2 H3=>L2.wipe σ2 vs=L2.wipe σ vs∧tT X W0 tc σ2 H3 fun b H4=>if b=true then tE X W0 mk σ2 H4 fun y H5=>tE X W0 mv σ2 H5 fun z H6=>∃kvs k b,y=.ref b∧H6 b=some (.tup (k.map kV))∧H6 p=some (.dT kvs)∧kvs.length<sizeLine∧N (upd H6 p (.dT (putK kvs k z))) else N H4:=by
  refine ⟨w,S2,μ2,d,⟨re,rs⟩,rx,?_⟩
  unfold gS at o
  obtain ⟨ks,us,hp,hk,ra⟩:=hp
  cases hg:g d w S2 with
  | none=>simp only[hg,Res.bindS] at o; exact o.elim
  | some q=>
    obtain ⟨e,Se⟩:=q
    simp only[hg] at o
    intro μ3 H3 σ3 st3 re3 rs3 hw
    refine ⟨hw.trans (e7 vs vs σ fun i hi=>hi),e,Se,μ3,⟨re3,rs3⟩,?_⟩
    have hp3:=st3.hk _ _ np hp
    have np3:p∈μ3.h:=by rw[st3.hid]; exact np
    have ra3:=RepAll.step st3 _ _ ra
    cases htc:tc e Se with
    | exc a b=>simp only[htc,Res.bindS] at o; exact o.elim
    | stuck=>simp only[htc,Res.bindS] at o; exact o.elim
    | ok c S4=>
      simp only[htc,Res.bindS] at o
      intro μ4 H4 b st4 rs4 hb
      subst hb
      have hp4:=st4.hk _ _ np3 hp3
      have np4:p∈μ4.h:=by rw[st4.hid]; exact np3
      have ra4:=RepAll.step st4 _ _ ra3
      cases b with
      | false=>
        simp only[Bool.false_eq_true,if_false] at o ⊢
        exact hN μ4 H4 S4 acc (.of (st3.trans st4)) rs4 ⟨ks,us,hp4,hk,ra4⟩ o
      | true=>
        simp only[if_true] at o ⊢
        refine ⟨e,S4,μ4,⟨re3.step st4,rs4⟩,?_⟩
        cases hm:mk e S4 with
        | exc a b=>simp only[hm,Res.bindS] at o; exact o.elim
        | stuck=>simp only[hm,Res.bindS] at o; exact o.elim
        | ok kd S5=>
          simp only[hm,Res.bindS] at o
          intro μ5 H5 y st5 rs5 ry
          have hp5:=st5.hk _ _ np4 hp4
          have np5:p∈μ5.h:=by rw[st5.hid]; exact np4
          have ra5:=RepAll.step st5 _ _ ra4
          refine ⟨e,S5,μ5,⟨(re3.step st4).step st5,rs5⟩,?_⟩
          cases hv:mv e S5 with
          | exc a b=>simp only[hv,Res.bindS] at o; exact o.elim
          | stuck=>simp only[hv,Res.bindS] at o; exact o.elim
          | ok v S6=>
            simp only[hv,Res.bindS] at o
            intro μ6 H6 z st6 rs6 rz
            have hp6:=st6.hk _ _ np5 hp5
            have np6:p∈μ6.h:=by rw[st6.hid]; exact np5
            have ra6:=RepAll.step st6 _ _ ra5
            by_cases hl:cB true kd=true∧acc.length<1000000
            · simp only[hl,and_self,if_true] at o
              obtain ⟨kk,rfl⟩:=tC hl.1
              obtain ⟨ks',vs',h1,h2,h3⟩:=jR tB kk rz hk ra6
              have sw:StP p μ6 H6 μ6 (upd H6 p (.dT (putK (ks.zip us) kk z))):=.write np6 (.of hp6)
              obtain ⟨kb,ey,hkb⟩:=jI (Rep.step st6 _ _ ry)
              refine ⟨_,kk,kb,ey,hkb,hp6,?_,?_⟩
              · rw[jQ hk ra,sizeLine_eq]; omega
              · exact hN μ6 _ S6 _ ((StP.of (((st3.trans st4).trans st5).trans st6)).trans sw) (rs6.write_hid np6) ⟨ks',vs',by rw[upd_same,h1],h2,RepAll.stp sw.toStp _ _ h3⟩ o
            · simp only[hl,if_false] at o; exact o.elim
theorem yI {own:List (Str × Nat)} {σ:L2.St} {H:Hp} {Q:VK} {W:WX} (h:tE X W (iP mi g tc mk mv (own.map (·.2))) σ H Q) :
    tDcT (tI X W mi) (tGc X (own.map (·.2)) g) (tT X W0 tc) (tE X W0 mk) (tE X W0 mv) (own.map (·.2)) σ H Q:=by
  obtain ⟨env,S,μ,rl,o⟩:=h
  generalize own.map (·.2)=vs at *
  refine ⟨env,S,μ,rl,(Out.bind o).mono fun J H1 ⟨μ1,S1,it,st,rs,rd,o1⟩ p hp=>?_⟩
  have rw1:RelE X.K X.mg μ1 H1 (ao env vs) (L2.wipe σ vs):=(rl.env.step st).wipe vs
  generalize ao env vs=w at *
  have sh:Stp μ1 H1 (μ1.hide p) (upd H1 p (.dT [])):=.new_hid hp
  have fin:∀(μ2:Mu) (H2:Hp) (S2:Sto) (acc:List (D × D)),StP p (μ1.hide p) (upd H1 p (.dT [])) μ2 H2→RelS X.K X.mg μ2 H2 S2→sQ X.K X.mg μ2 H2 p acc→Out X.K X.mg W σ μ1 H1 (fun μ H a b=>Rep X.K X.mg μ H a b) Q (Res.bind (.ok acc S2) kDT)→Q (.ref p) H2:=by
    intro μ2 H2 S2 acc sp rs2 ⟨ks,us,hp2,hk2,ra⟩ o
    have hpm:p∈μ2.h:=by rw[sp.hid]; exact List.mem_cons_self
    have sub:∀a∈μ1.h,a∈μ2.h:=fun a ha=>by rw[sp.hid]; exact List.mem_cons_of_mem _ ha
    have su:Stp μ2 H2 ⟨μ2.l++[p],μ1.h⟩ H2:=.reveal hpm sub
    have rr:=rs2.reveal (o:=.dct true acc) hpm sub (rs.notinH hp) ⟨us,ks,⟨hp2,hk2⟩,ra⟩
    refine o ⟨μ2.l++[p],μ1.h⟩ H2 (.ref p) ⟨(sh.trans sp.toStp).trans su,rfl,fun a u ha e nt=>sp.hk a u (ne_of_none e hp) (List.mem_cons_of_mem _ ha) (by rw[upd_ne (ne_of_none e hp)]; exact e) nt⟩ rr ?_
    unfold Rep
    exact ⟨p,rfl,by rw[rs2.len]; simp⟩
  have npm:∀ {μ2:Mu} {H2:Hp},StP p (μ1.hide p) (upd H1 p (.dT [])) μ2 H2→p∈μ2.h:=fun sp=>by rw[sp.hid]; exact List.mem_cons_self
  have st0:StP p (μ1.hide p) (upd H1 p (.dT [])) (μ1.hide p) (upd H1 p (.dT [])):=.of .refl
  cases it with
  | items ds=>
    have rd:dM X.K X.mg μ1 H1 ds J:=rd
    refine ⟨fun i n H=>n+i=ds.length∧∃μ S acc,StP p (μ1.hide p) (upd H1 p (.dT [])) μ H∧RelS X.K X.mg μ H S∧sQ X.K X.mg μ H p acc∧Out X.K X.mg W σ μ1 H1 (fun μ H a b=>Rep X.K X.mg μ H a b) Q ((fZ g tc mk mv w (ds.drop i) acc S).bind kDT),
      ⟨ds.length,rfl,_,S1,[],st0,rs.hide hp,⟨[],[],upd_same,rfl,.nil⟩,o1⟩,?_⟩
    rintro i n H ⟨hn,μ,S,acc,sp,rs,hpp,o⟩
    have sb:Stp μ1 H1 μ H:=sh.trans sp.toStp
    by_cases hi:i<ds.length
    · have ed:ds.drop i=ds[i]::ds.drop (i+1):=List.drop_eq_getElem_cons hi
      rw[ed] at o
      unfold fZ at o
      have o:Out X.K X.mg W σ μ1 H1 (fun μ H a b=>Rep X.K X.mg μ H a b) Q ((gS g tc mk mv w ds[i] acc S).bindS fun acc S=>(fZ g tc mk mv w (ds.drop (i+1)) acc S).bind kDT):=by
        cases hq:gS g tc mk mv w ds[i] acc S with
        | ok a b=>rw[hq] at o; exact o
        | exc a b=>rw[hq] at o; exact o
        | stuck=>rw[hq] at o; exact o
      refine .inr ⟨rd.goes i μ H hi sb,fun H=>∃μ S acc,StP p (μ1.hide p) (upd H1 p (.dT [])) μ H∧RelS X.K X.mg μ H S∧sQ X.K X.mg μ H p acc∧Out X.K X.mg W σ μ1 H1 (fun μ H a b=>Rep X.K X.mg μ H a b) Q ((fZ g tc mk mv w (ds.drop (i+1)) acc S).bind kDT),fun H' w=>⟨n - 1,by omega,by omega,w⟩,fun x H' y=>?_⟩
      obtain ⟨sm,rx⟩:=rd.yields i _ μ H S x H' (List.getElem?_eq_getElem hi) sb rs y
      have sx:Step μ H μ H':=.of_sm sm
      have spx:=sp.trans (StP.of sx)
      obtain ⟨ks,us,g1,g2,g3⟩:=hpp
      refine qe ((rw1.stp sh).stp spx.toStp) (rs.sm sm) ⟨ks,us,sm _ _ g1,g2,RepAll.step sx _ _ g3⟩ (npm spx) rx o fun μ3 H3 S3 acc' s3 rs3 hp3 o3=>⟨μ3,S3,acc',spx.trans s3,rs3,hp3,o3⟩
    · have e:i=ds.length:=by omega
      subst e
      rw[List.drop_length] at o
      exact .inl ⟨rd.stops μ H sb,fin μ H S acc sp rs hpp o⟩
  | live l=>
    obtain ⟨a,ha,rfl⟩:=rd
    refine ⟨fun i n H=>∃μ S acc,StP p (μ1.hide p) (upd H1 p (.dT [])) μ H∧RelS X.K X.mg μ H S∧sQ X.K X.mg μ H p acc∧Out X.K X.mg W σ μ1 H1 (fun μ H a b=>Rep X.K X.mg μ H a b) Q ((cW g tc mk mv w l n i acc S).bind kDT),
      ⟨_,_,S1,[],st0,rs.hide hp,⟨[],[],upd_same,rfl,.nil⟩,o1⟩,?_⟩
    rintro i n H ⟨μ,S,acc,sp,rs,hpp,o⟩
    have sb:Stp μ1 H1 μ H:=sh.trans sp.toStp
    cases n with
    | zero=>exact o.elim
    | succ n=>
      unfold cW at o
      split at o
      · rename_i xs es
        obtain ⟨a',h1,vs',h2,h3⟩:=rs.at_ _ _ es
        rw[sb.get ha] at h1; cases h1
        split at o
        · rename_i hx
          refine .inl ⟨⟨vs',.of h2,?_⟩,fin μ H S acc sp rs hpp o⟩
          rw[←h3.length]
          exact List.getElem?_eq_none_iff.mp hx
        · rename_i d hx
          obtain ⟨v,hv,rv⟩:=h3.get hx
          have o:Out X.K X.mg W σ μ1 H1 (fun μ H a b=>Rep X.K X.mg μ H a b) Q ((gS g tc mk mv w d acc S).bindS fun acc S=>(cW g tc mk mv w l n (i+1) acc S).bind kDT):=by
            cases hq:gS g tc mk mv w d acc S with
            | ok a b=>rw[hq] at o; exact o
            | exc a b=>rw[hq] at o; exact o
            | stuck=>rw[hq] at o; exact o
          refine .inr ⟨⟨vs',v,.of h2,hv⟩,fun H=>∃μ S acc,StP p (μ1.hide p) (upd H1 p (.dT [])) μ H∧RelS X.K X.mg μ H S∧sQ X.K X.mg μ H p acc∧Out X.K X.mg W σ μ1 H1 (fun μ H a b=>Rep X.K X.mg μ H a b) Q ((cW g tc mk mv w l n (i+1) acc S).bind kDT),fun H' w=>⟨n,Nat.lt_succ_self n,w⟩,fun x H' y=>?_⟩
          obtain ⟨rfl,y⟩:=y
          have q:=y vs' (.of h2)
          rw[hv] at q; cases q
          exact qe ((rw1.stp sh).stp sp.toStp) rs hpp (npm sp) rv o fun μ3 H3 S3 acc' s3 rs3 hp3 o3=>⟨μ3,S3,acc',sp.trans s3,rs3,hp3,o3⟩
      · exact o.elim
  | liveE l=>exact o1.elim
theorem n9 {scope:Scope} {own:List (Str × Nat)} {ifs:List Expr} (hu:X.A.units+65<cLine) (hc:X.calm=true) (hN:X.N.Nodup) (hi:PI X tg iter (tI X W mi)) (ok:BlkOk X.N X.env.scope scope own)
    (hg:∀(s:Shared) (H:Hp) (C:Addr) (cl:List (Str × Addr)) (fp:List Addr),PG (X.blk s H scope (compEnvC scope cl C X.env) fp) tg (tGc (X.blk s H scope (compEnvC scope cl C X.env) fp) (own.map (·.2)) g))
    (ht:∀(s:Shared) (H:Hp) (C:Addr) (cl:List (Str × Addr)) (fp:List Addr),oW (X.blk s H scope (compEnvC scope cl C X.env) fp) ifs tc)
    (hk:∀(s:Shared) (H:Hp) (C:Addr) (cl:List (Str × Addr)) (fp:List Addr),PE (X.blk s H scope (compEnvC scope cl C X.env) fp) kx (tE (X.blk s H scope (compEnvC scope cl C X.env) fp) W0 mk))
    (he:∀(s:Shared) (H:Hp) (C:Addr) (cl:List (Str × Addr)) (fp:List Addr),PE (X.blk s H scope (compEnvC scope cl C X.env) fp) vx (tE (X.blk s H scope (compEnvC scope cl C X.env) fp) W0 mv)) (hs:∀x,foldedSetIterable iter X.env x=pure x:=by intro _; rfl) :
    PE X (.DictComp kx vx [⟨tg,iter,ifs,0⟩] scope pos) (tE X W (iP mi g tc mk mv (own.map (·.2)))):=
  bt (pe_dcT (g:=tGc X (own.map Prod.snd) g) (tt:=tT X W0 tc) (tk:=tE X W0 mk) (tv:=tE X W0 mv) hu hc hN hi ok hg ht hk he hs) fun σ H Q h=>yI h
end
@[simp] theorem eDCompT_at (mi:MI) (g:MG) (tc:MT) (mk mv:ME) (vs:List Nat) (env:En) (S:Sto):iP mi g tc mk mv vs env S=(mi env S).bind fun it S=>match it with
  | .items ds=>(fZ g tc mk mv (ao env vs) ds [] S).bind kDT
  | .live l=>(cW g tc mk mv (ao env vs) l (cy S l+1) 0 [] S).bind kDT
  | .liveE _=>.stuck:=rfl
@[simp] theorem kDT_at (kvs:List (D × D)) (S:Sto):kDT kvs S=.ok (.loc S.length) (S++[.dct true kvs]):=rfl
section
variable {E:XV→Sto→Prop}
@[simp ↓] theorem wq_eDCompT (mi:MI) (g:MG) (tc:MT) (mk mv:ME) (vs:List Nat) (env:En) (S:Sto) {Q:D→Sto→Prop}:Res.wp (iP mi g tc mk mv vs env S) Q E=Res.wp ((mi env S).bind fun it S=>match it with
  | .items ds=>(fZ g tc mk mv (ao env vs) ds [] S).bind kDT
  | .live l=>(cW g tc mk mv (ao env vs) l (cy S l+1) 0 [] S).bind kDT
  | .liveE _=>.stuck) Q E:=rfl
@[simp ↓] theorem wq_kDT (kvs:List (D × D)) (S:Sto) {Q:D→Sto→Prop}:Res.wp (kDT kvs S) Q E=Res.wp (.ok (.loc S.length) (S++[.dct true kvs])) Q E:=rfl
end
/-- list(x),x a tuple: a list that is changed later -/
def wS (r:MA):ME:=fun env S=>(r env S).bind fun ds S=>match ds.map (view S) with
  | [.tup ys]=>.ok (.loc S.length) (S++[.lst ys])
  | _=>.stuck
@[simp] theorem eListT_at (r:MA) (env:En) (S:Sto):wS r env S=(r env S).bind fun ds S=>match ds.map (view S) with
  | [.tup ys]=>.ok (.loc S.length) (S++[.lst ys])
  | _=>.stuck:=rfl
@[simp ↓] theorem wq_eListT (r:MA) (env:En) (S:Sto) {Q:D→Sto→Prop} {E:XV→Sto→Prop}:Res.wp (wS r env S) Q E=Res.wp ((r env S).bind fun ds S=>match ds.map (view S) with
  | [.tup ys]=>.ok (.loc S.length) (S++[.lst ys])
  | _=>.stuck) Q E:=rfl
end DL
namespace DL
open PySem PySem.Spec PyProof.Rows L2
end DL
namespace DL
open PySem PySem.Spec PyProof.Rows L2 LamX
def kq:Nat:=1000000000000
noncomputable section
structure Fx (K:PySem.W.Frag) (mg:Str→Option Value):Prop where
  a_Matcher_ahead:NoAttr K (He.ga K "Matcher") "ahead"
  a_Matcher_behind:NoAttr K (He.ga K "Matcher") "behind"
  a_Matcher_every:NoAttr K (He.ga K "Matcher") "every"
  a_Matcher_nexts:NoAttr K (He.ga K "Matcher") "nexts"
  a_Net_changes:NoAttr K (He.ga K "Net") "changes"
  a_Net_legs:NoAttr K (He.ga K "Net") "legs"
  c_Matcher:Cls K (He.ga K "Matcher")
  c_Net:Cls K (He.ga K "Net")
  d_AirError:mg "AirError"=some (.ref (He.ga K "AirError"))
  d_BadCount:mg "BadCount"=some (.ref (He.ga K "BadCount"))
  d_BadDay:mg "BadDay"=some (.ref (He.ga K "BadDay"))
  d_BadNet:mg "BadNet"=some (.ref (He.ga K "BadNet"))
  d_Matcher:mg "Matcher"=some (.ref (He.ga K "Matcher"))
  d_Net:mg "Net"=some (.ref (He.ga K "Net"))
  d__law_arrive:mg "_law_arrive"=some (.ref (He.ga K "_law_arrive"))
  d__law_drawn:mg "_law_drawn"=some (.ref (He.ga K "_law_drawn"))
  d__law_least:mg "_law_least"=some (.ref (He.ga K "_law_least"))
  d__law_leave:mg "_law_leave"=some (.ref (He.ga K "_law_leave"))
  d__law_leg:mg "_law_leg"=some (.ref (He.ga K "_law_leg"))
  d__law_matched:mg "_law_matched"=some (.ref (He.ga K "_law_matched"))
  d__law_may:mg "_law_may"=some (.ref (He.ga K "_law_may"))
  d__law_net:mg "_law_net"=some (.ref (He.ga K "_law_net"))
  d__law_rides:mg "_law_rides"=some (.ref (He.ga K "_law_rides"))
  d__law_shuttle:mg "_law_shuttle"=some (.ref (He.ga K "_law_shuttle"))
  d__law_start:mg "_law_start"=some (.ref (He.ga K "_law_start"))
  d_are_days:mg "are_days"=some (.ref (He.ga K "are_days"))
  d_can_follow:mg "can_follow"=some (.ref (He.ga K "can_follow"))
  d_dated:mg "dated"=some (.ref (He.ga K "dated"))
  d_fewest:mg "fewest"=some (.ref (He.ga K "fewest"))
  d_is_end:mg "is_end"=some (.ref (He.ga K "is_end"))
  d_is_leg:mg "is_leg"=some (.ref (He.ga K "is_leg"))
  d_is_number:mg "is_number"=some (.ref (He.ga K "is_number"))
  d_is_place:mg "is_place"=some (.ref (He.ga K "is_place"))
  d_is_word:mg "is_word"=some (.ref (He.ga K "is_word"))
  d_need_days:mg "need_days"=some (.ref (He.ga K "need_days"))
  d_need_net:mg "need_net"=some (.ref (He.ga K "need_net"))
  d_need_turn:mg "need_turn"=some (.ref (He.ga K "need_turn"))
  d_shown_planes:mg "shown_planes"=some (.ref (He.ga K "shown_planes"))
  e_BadNet:ExcI K (He.ga K "BadNet") (He.ma K (He.ga K "BadNet") "__init__") (He.ga K "AirError") ["part","number"]
  i_DAY:∃t,mg "DAY"=some (.int 1440 t)
  i_LEAST_CHANGE:∃t,mg "LEAST_CHANGE"=some (.int 10 t)
  i_LEAST_LONG:∃t,mg "LEAST_LONG"=some (.int 20 t)
  i_LEAST_TURN:∃t,mg "LEAST_TURN"=some (.int 10 t)
  i_MOST_CHANGE:∃t,mg "MOST_CHANGE"=some (.int 300 t)
  i_MOST_DAY:∃t,mg "MOST_DAY"=some (.int 60 t)
  i_MOST_FARE:∃t,mg "MOST_FARE"=some (.int 100000 t)
  i_MOST_LEGS:∃t,mg "MOST_LEGS"=some (.int 60 t)
  i_MOST_LONG:∃t,mg "MOST_LONG"=some (.int 900 t)
  i_MOST_NUMBER:∃t,mg "MOST_NUMBER"=some (.int 9999 t)
  i_MOST_PLACES:∃t,mg "MOST_PLACES"=some (.int 12 t)
  i_MOST_TURN:∃t,mg "MOST_TURN"=some (.int 300 t)
  i_PLACE_SIZE:∃t,mg "PLACE_SIZE"=some (.int 3 t)
  i_WEEK:∃t,mg "WEEK"=some (.int 7 t)
  k_Matcher:Mk K (He.ga K "Matcher") (He.ma K (He.ga K "Matcher") "__init__")
  k_Net:Mk K (He.ga K "Net") (He.ma K (He.ga K "Net") "__init__")
  m_Matcher_chains:Meth K (He.ga K "Matcher") "chains" (He.ma K (He.ga K "Matcher") "chains")
  m_Matcher_cover:Meth K (He.ga K "Matcher") "cover" (He.ma K (He.ga K "Matcher") "cover")
  m_Matcher_grow:Meth K (He.ga K "Matcher") "grow" (He.ma K (He.ga K "Matcher") "grow")
  m_Net_all_rides:Meth K (He.ga K "Net") "all_rides" (He.ma K (He.ga K "Net") "all_rides")
  m_Net_arrive:Meth K (He.ga K "Net") "arrive" (He.ma K (He.ga K "Net") "arrive")
  m_Net_goal:Meth K (He.ga K "Net") "goal" (He.ma K (He.ga K "Net") "goal")
  m_Net_goes:Meth K (He.ga K "Net") "goes" (He.ma K (He.ga K "Net") "goes")
  m_Net_leave:Meth K (He.ga K "Net") "leave" (He.ma K (He.ga K "Net") "leave")
  m_Net_long:Meth K (He.ga K "Net") "long" (He.ma K (He.ga K "Net") "long")
  m_Net_start:Meth K (He.ga K "Net") "start" (He.ma K (He.ga K "Net") "start")
  n_all:mg "all"=none
  n_bool:mg "bool"=none
  n_dict:mg "dict"=none
  n_enumerate:mg "enumerate"=none
  n_int:mg "int"=none
  n_isinstance:mg "isinstance"=none
  n_len:mg "len"=none
  n_list:mg "list"=none
  n_min:mg "min"=none
  n_range:mg "range"=none
  n_set:mg "set"=none
  n_sorted:mg "sorted"=none
  n_str:mg "str"=none
  n_tuple:mg "tuple"=none
  n_zip:mg "zip"=none
  s_LETTERS:∃t,mg "LETTERS"=some (.str "abcdefghijklmnopqrstuvwxyz" t)
  x_BadCount:ExcF K (He.ga K "BadCount")
  x_BadDay:ExcF K (He.ga K "BadDay")
structure Gx (P:Program) (w:World) (K:PySem.W.Frag) (mg:Str→Option Value) (base:Heap):Prop where
  fx:Fx K mg
  tb:∀p∈lamDefs,TabB base mg (He.cT K p.1).1 (He.cT K p.1).2
  tm:∀p∈lamDefs,((He.cT K p.1).2,p.2)∈tbs K
  tu:∀p∈lamDefs,∀r∈tbs K,r.1=(He.cT K p.1).2→r.2=p.2
  f_Matcher_cover:∃fd,FunD K "cover" "Matcher.cover" (defArgs (inClass (top 34) 3)) (defBody (inClass (top 34) 3)) (defScope (inClass (top 34) 3)) [] [] (He.ma K (He.ga K "Matcher") "cover") fd
  f_Matcher_chains:∃fd,FunD K "chains" "Matcher.chains" (defArgs (inClass (top 34) 2)) (defBody (inClass (top 34) 2)) (defScope (inClass (top 34) 2)) [] [] (He.ma K (He.ga K "Matcher") "chains") fd
  f_Net_leave:∃fd,FunD K "leave" "Net.leave" (defArgs (inClass (top 26) 7)) (defBody (inClass (top 26) 7)) (defScope (inClass (top 26) 7)) [] [] (He.ma K (He.ga K "Net") "leave") fd
  f_is_number:∃fd,FunD K "is_number" "is_number" (defArgs (top 20)) (defBody (top 20)) (defScope (top 20)) [] [] (He.ga K "is_number") fd
  f_Net_goes:∃fd,FunD K "goes" "Net.goes" (defArgs (inClass (top 26) 1)) (defBody (inClass (top 26) 1)) (defScope (inClass (top 26) 1)) [] [] (He.ma K (He.ga K "Net") "goes") fd
  f_Net_all_rides:∃fd,FunD K "all_rides" "Net.all_rides" (defArgs (inClass (top 26) 9)) (defBody (inClass (top 26) 9)) (defScope (inClass (top 26) 9)) [] [] (He.ma K (He.ga K "Net") "all_rides") fd
  f_Matcher_grow:∃fd,FunD K "grow" "Matcher.grow" (defArgs (inClass (top 34) 1)) (defBody (inClass (top 34) 1)) (defScope (inClass (top 34) 1)) [] [] (He.ma K (He.ga K "Matcher") "grow") fd
  f_Net_long:∃fd,FunD K "long" "Net.long" (defArgs (inClass (top 26) 5)) (defBody (inClass (top 26) 5)) (defScope (inClass (top 26) 5)) [] [] (He.ma K (He.ga K "Net") "long") fd
  f_Net_arrive:∃fd,FunD K "arrive" "Net.arrive" (defArgs (inClass (top 26) 8)) (defBody (inClass (top 26) 8)) (defScope (inClass (top 26) 8)) [] [] (He.ma K (He.ga K "Net") "arrive") fd
  f_Net_goal:∃fd,FunD K "goal" "Net.goal" (defArgs (inClass (top 26) 4)) (defBody (inClass (top 26) 4)) (defScope (inClass (top 26) 4)) [] [] (He.ma K (He.ga K "Net") "goal") fd
  f_Net_start:∃fd,FunD K "start" "Net.start" (defArgs (inClass (top 26) 3)) (defBody (inClass (top 26) 3)) (defScope (inClass (top 26) 3)) [] [] (He.ma K (He.ga K "Net") "start") fd
  f_can_follow:∃fd,FunD K "can_follow" "can_follow" (defArgs (top 33)) (defBody (top 33)) (defScope (top 33)) [] [] (He.ga K "can_follow") fd
  f_Matcher_init__:∃fd,FunD K "__init__" "Matcher.__init__" (defArgs (inClass (top 34) 0)) (defBody (inClass (top 34) 0)) (defScope (inClass (top 34) 0)) [] [] (He.ma K (He.ga K "Matcher") "__init__") fd
  f_need_days:∃fd,FunD K "need_days" "need_days" (defArgs (top 27)) (defBody (top 27)) (defScope (top 27)) [] [] (He.ga K "need_days") fd
  f_need_turn:∃fd,FunD K "need_turn" "need_turn" (defArgs (top 32)) (defBody (top 32)) (defScope (top 32)) [] [] (He.ga K "need_turn") fd
  f_are_days:∃fd,FunD K "are_days" "are_days" (defArgs (top 23)) (defBody (top 23)) (defScope (top 23)) [] [] (He.ga K "are_days") fd
  f_is_leg:∃fd,FunD K "is_leg" "is_leg" (defArgs (top 24)) (defBody (top 24)) (defScope (top 24)) [] [] (He.ga K "is_leg") fd
  f_BadNet_init__:∃fd,FunD K "__init__" "BadNet.__init__" (defArgs (inClass (top 3) 0)) (defBody (inClass (top 3) 0)) (defScope (inClass (top 3) 0)) [] [] (He.ma K (He.ga K "BadNet") "__init__") fd
  f_is_word:∃fd,FunD K "is_word" "is_word" (defArgs (top 21)) (defBody (top 21)) (defScope (top 21)) [] [] (He.ga K "is_word") fd
  f_is_place:∃fd,FunD K "is_place" "is_place" (defArgs (top 22)) (defBody (top 22)) (defScope (top 22)) [] [] (He.ga K "is_place") fd
  f_need_net:∃fd,FunD K "need_net" "need_net" (defArgs (top 25)) (defBody (top 25)) (defScope (top 25)) [] [] (He.ga K "need_net") fd
  f_Net_init__:∃fd,FunD K "__init__" "Net.__init__" (defArgs (inClass (top 26) 0)) (defBody (inClass (top 26) 0)) (defScope (inClass (top 26) 0)) [] [] (He.ma K (He.ga K "Net") "__init__") fd
  f_fewest:∃fd,FunD K "fewest" "fewest" (defArgs (top 35)) (defBody (top 35)) (defScope (top 35)) [] [] (He.ga K "fewest") fd
  f_is_end:∃fd,FunD K "is_end" "is_end" (defArgs (top 36)) (defBody (top 36)) (defScope (top 36)) [] [] (He.ga K "is_end") fd
  f_shown_planes:∃fd,FunD K "shown_planes" "shown_planes" (defArgs (top 37)) (defBody (top 37)) (defScope (top 37)) [] [] (He.ga K "shown_planes") fd
  f_law_leave:∃fd,FunD K "_law_leave" "_law_leave" (defArgs (top 43)) (defBody (top 43)) (defScope (top 43)) [] [] (He.ga K "_law_leave") fd
  f_law_leg:∃fd,FunD K "_law_leg" "_law_leg" (defArgs (top 44)) (defBody (top 44)) (defScope (top 44)) [] [] (He.ga K "_law_leg") fd
  f_law_arrive:∃fd,FunD K "_law_arrive" "_law_arrive" (defArgs (top 46)) (defBody (top 46)) (defScope (top 46)) [] [] (He.ga K "_law_arrive") fd
  f_law_may:∃fd,FunD K "_law_may" "_law_may" (defArgs (top 47)) (defBody (top 47)) (defScope (top 47)) [] [] (He.ga K "_law_may") fd
  f_law_matched:∃fd,FunD K "_law_matched" "_law_matched" (defArgs (top 48)) (defBody (top 48)) (defScope (top 48)) [] [] (He.ga K "_law_matched") fd
  f_law_least:∃fd,FunD K "_law_least" "_law_least" (defArgs (top 49)) (defBody (top 49)) (defScope (top 49)) [] [] (He.ga K "_law_least") fd
  f_dated:∃fd,FunD K "dated" "dated" (defArgs (top 28)) (defBody (top 28)) (defScope (top 28)) [] [] (He.ga K "dated") fd
  f_law_rides:∃fd,FunD K "_law_rides" "_law_rides" (defArgs (top 45)) (defBody (top 45)) (defScope (top 45)) [] [] (He.ga K "_law_rides") fd
  f_law_drawn:∃fd,FunD K "_law_drawn" "_law_drawn" (defArgs (top 40)) (defBody (top 40)) (defScope (top 40)) [] [] (He.ga K "_law_drawn") fd
  f_law_shuttle:∃fd,FunD K "_law_shuttle" "_law_shuttle" (defArgs (top 41)) (defBody (top 41)) (defScope (top 41)) [] [] (He.ga K "_law_shuttle") fd
  f_law_net:∃fd,FunD K "_law_net" "_law_net" (defArgs (top 42)) (defBody (top 42)) (defScope (top 42)) [] [] (He.ga K "_law_net") fd
  f_law_start:∃fd,FunD K "_law_start" "_law_start" (defArgs (top 39)) (defBody (top 39)) (defScope (top 39)) [] [] (He.ga K "_law_start") fd
  f_law:∃fd,FunD K "law" "law" (defArgs (top 50)) (defBody (top 50)) (defScope (top 50)) [] [] (He.ga K "law") fd
abbrev kI:Stmt:=(inClass (top 34) 3)
abbrev N_Matcher_cover:List Str:=["self","waiting","ends","begins","ride","other","found"]
def gk:MS:=aV (bw 1 (lw (cF (df "Matcher" "every" (eV 0))) (gV 4) (tOf (aK cZ (eV 4) (df "Matcher" "ahead" (eV 0)))) (eV 4) [4]))
  (aV (fg (cx (aC (iP (cF (eV 1)) (gV 4) (c5) (eV 4) (eC (.bool true)) [4]) (aC (oQ true) (aJ)))) (dg 2 (au (gV 2) (au (gV 3) (eW)))))
  (aV (fh (tOf (aK (lv dNe) (eV 1) (jK (aJ)))) (aV (bw 4 (eM bn bPop (eV 1) aJ))
  (fv (cF (aK fIx (df "Matcher" "nexts" (eV 0)) (eV 4))) (gV 5) (sIf (tOf (aK cZ (eV 5) (eV 3))) (aV (fg (eC (.bool true)) (fY (eV 3) (eV 5)))
  (sIf (tOf (aK cZ (aK fIx (df "Matcher" "behind" (eV 0)) (eV 5)) (eV 2))) (aV (fg (eC (.bool true)) (fY (eV 2) (aK fIx (df "Matcher" "behind" (eV 0)) (eV 5))))
  (dL (eM bn bD (eV 1) (aC (aK fIx (df "Matcher" "behind" (eV 0)) (eV 5)) (aJ))))) (b4))) (b4)))) kq)
  (aV (bw 6 (bv (cF (df "Matcher" "every" (eV 0))) (gV 4) (tOf (aK cZ (eV 4) (eV 2))) (cx (aC (eC (.int 0)) (aC (eV 4) (aJ)))) [4]))
  (bF (eB iu (aC (eB dW (aC (aK (lv0 bS) (eV 6) (bv (cF (df "Matcher" "every" (eV 0))) (gV 4) (tOf (aK fIn (eV 4) (eV 3))) (cx (aC (eC (.int 1)) (aC (eV 4) (aJ)))) [4])) (aJ))) (aJ)))))))
def cO:MF:=ay 6 gk
theorem kJ {P:Program} {w:World} {K:PySem.W.Frag} {mg:Str→Option Value} {base:Heap} (G:Gx P w K mg base):FnE P w K mg base 1 (He.ma K (He.ga K "Matcher") "cover") ["self"] cO:=by
  obtain ⟨fd,F⟩:=G.f_Matcher_cover
  have fx:=G.fx
  refine ⟨fd,?_⟩
  refine ak (N:=N_Matcher_cover) (st:=kI) (k:=0) F ⟨rfl,rfl,rfl,by decide +kernel,rfl,by decide +kernel,by decide +kernel⟩ rfl (fun _ _ _ _ _ _ us hl=>match us,hl with|[_],_=>rfl) fun cdv A outer s H E hcd hp hr W tk=>?_
  have nd:N_Matcher_cover.Nodup:=by decide +kernel
  have hu1:=ru1 hr
  have hu64:=cM hr
  have hu65:=cN hr
  exact (aI (qd (own:=[("ride",4)]) (i:=1) rfl nd rfl rfl rfl (az (bV (aB 0) fx.d_Matcher fx.c_Matcher fx.a_Matcher_every)) (blkOk_by (by kernel_rfl)) (fun _ _ _ _ _=>(ai (i:=4) nd rfl (by first|exact .inl rfl|exact .inr rfl) (by decide))) (fun _ _ _ _ _=>(dP (aY (cS hu65) (aB 4) (bV (aB 0) fx.d_Matcher fx.c_Matcher fx.a_Matcher_ahead) (by with_unfolding_all rfl)))) (fun _ _ _ _ _=>(aB 4)))
    (aI (cR (bE (aA (n9 (own:=[("ride",4)]) hu65 rfl nd (az (aB 1)) (blkOk_by (by kernel_rfl)) (fun _ _ _ _ _=>(ai (i:=4) nd rfl (by first|exact .inl rfl|exact .inr rfl) (by decide))) (fun _ _ _ _ _=>bz) (fun _ _ _ _ _=>(aB 4)) (fun _ _ _ _ _=>bC)) (aA iK aD))) (gQ rfl (aq (aZ (i:=2) nd rfl (by first|exact .inl rfl|exact .inr rfl)) (aq (aZ (i:=3) nd rfl (by first|exact .inl rfl|exact .inr rfl)) eg))))
    (aI (pb hp kq (aY (ig hu64) (aB 1) (fA aD) (by with_unfolding_all rfl)) (aI (bA (i:=4) nd rfl (by first|exact .inl rfl|exact .inr rfl) (sE_m0 fi PySem.F.plainAttrs_list PySem.F.slot_list_pop PySem.F.type_list_pop m_pop (aB 1)))
    (aL (cc hp rfl (az (aS hu1 (bV (aB 0) fx.d_Matcher fx.c_Matcher fx.a_Matcher_nexts) (aB 4))) (aZ (i:=5) nd rfl (by first|exact .inl rfl|exact .inr rfl)) (aL (bH (aY (cS hu65) (aB 5) (aB 3) (by with_unfolding_all rfl)) (aI (cR bC (fE hu1 (aB 3) (aB 5)))
    (aL (bH (aY (cS hu65) (aS hu1 (bV (aB 0) fx.d_Matcher fx.c_Matcher fx.a_Matcher_behind) (aB 5)) (aB 2) (by with_unfolding_all rfl)) (aI (cR bC (fE hu1 (aB 2) (aS hu1 (bV (aB 0) fx.d_Matcher fx.c_Matcher fx.a_Matcher_behind) (aB 5))))
    (aL (bx (oY fi PySem.F.plainAttrs_list PySem.F.slot_list_append PySem.F.type_list_append dS (aB 1) (aA (aS hu1 (bV (aB 0) fx.d_Matcher fx.c_Matcher fx.a_Matcher_behind) (aB 5)) aD))))) aa))) aa))))))
    (aI (ir (own:=[("ride",4)]) (i:=6) rfl nd rfl rfl rfl (az (bV (aB 0) fx.d_Matcher fx.c_Matcher fx.a_Matcher_every)) (blkOk_by (by kernel_rfl)) (fun _ _ _ _ _=>(ai (i:=4) nd rfl (by first|exact .inl rfl|exact .inr rfl) (by decide))) (fun _ _ _ _ _=>(dP (aY (cS hu65) (aB 4) (aB 2) (by with_unfolding_all rfl)))) (fun _ _ _ _ _=>(bE (aA aF (aA (aB 4) aD)))))
    (aL (aU (dQ kg rfl fx.n_tuple bN (aA (bj (hV hu65) rfl fx.n_sorted e8 (aA (aP ax (aB 6) (bi (own:=[("ride",4)]) rfl nd (az (bV (aB 0) fx.d_Matcher fx.c_Matcher fx.a_Matcher_every)) (blkOk_by (by kernel_rfl)) (fun _ _ _ _ _=>(ai (i:=4) nd rfl (by first|exact .inl rfl|exact .inr rfl) (by decide))) (fun _ _ _ _ _=>(dP (aY (pY hu65) (aB 4) (aB 3) (by with_unfolding_all rfl)))) (fun _ _ _ _ _=>(bE (aA aF (aA (aB 4) aD)))))) aD)) aD))))))))
abbrev je:Stmt:=(inClass (top 34) 2)
abbrev N_Matcher_chains:List Str:=["self","found","ride","chain"]
def gF:MS:=aV (bw 1 (iU (aJ)))
  (aV (fv (cF (df "Matcher" "every" (eV 0))) (gV 2) (sIf (tOf (aK cZ (eV 2) (df "Matcher" "behind" (eV 0)))) (aV (bw 3 (iU (aC (eV 2) (aJ))))
  (aV (fh (tOf (aK fIn (aK fIx (eV 3) (eNeg (eC (.int 1)))) (df "Matcher" "ahead" (eV 0)))) (dL (eM bn bD (eV 3) (aC (aK fIx (df "Matcher" "ahead" (eV 0)) (aK fIx (eV 3) (eNeg (eC (.int 1))))) (aJ)))) kq)
  (dL (eM bn bD (eV 1) (aC (eB iu (aC (eV 3) (aJ))) (aJ)))))) (b4)))
  (bF (eV 1)))
def b5:MF:=ay 3 gF
theorem jf {P:Program} {w:World} {K:PySem.W.Frag} {mg:Str→Option Value} {base:Heap} (G:Gx P w K mg base):FnE P w K mg base 1 (He.ma K (He.ga K "Matcher") "chains") ["self"] b5:=by
  obtain ⟨fd,F⟩:=G.f_Matcher_chains
  have fx:=G.fx
  refine ⟨fd,?_⟩
  refine ak (N:=N_Matcher_chains) (st:=je) (k:=0) F ⟨rfl,rfl,rfl,by decide +kernel,rfl,by decide +kernel,by decide +kernel⟩ rfl (fun _ _ _ _ _ _ us hl=>match us,hl with|[_],_=>rfl) fun cdv A outer s H E hcd hp hr W tk=>?_
  have nd:N_Matcher_chains.Nodup:=by decide +kernel
  have hu1:=ru1 hr
  have hu64:=cM hr
  have hu65:=cN hr
  exact (aI (bA (i:=1) nd rfl (by first|exact .inl rfl|exact .inr rfl) (gP aD))
    (aI (cc hp rfl (az (bV (aB 0) fx.d_Matcher fx.c_Matcher fx.a_Matcher_every)) (aZ (i:=2) nd rfl (by first|exact .inl rfl|exact .inr rfl)) (aL (bH (aY (cS hu65) (aB 2) (bV (aB 0) fx.d_Matcher fx.c_Matcher fx.a_Matcher_behind) (by with_unfolding_all rfl)) (aI (bA (i:=3) nd rfl (by first|exact .inl rfl|exact .inr rfl) (gP (aA (aB 2) aD)))
    (aI (pb hp kq (aY (pY hu65) (aS hu1 (aB 3) (rR aF)) (bV (aB 0) fx.d_Matcher fx.c_Matcher fx.a_Matcher_ahead) (by with_unfolding_all rfl)) (aL (bx (oY fi PySem.F.plainAttrs_list PySem.F.slot_list_append PySem.F.type_list_append dS (aB 3) (aA (aS hu1 (bV (aB 0) fx.d_Matcher fx.c_Matcher fx.a_Matcher_ahead) (aS hu1 (aB 3) (rR aF))) aD)))))
    (aL (bx (oY fi PySem.F.plainAttrs_list PySem.F.slot_list_append PySem.F.type_list_append dS (aB 1) (aA (dQ kg rfl fx.n_tuple bN (aA (aB 3) aD)) aD)))))) aa)))
    (aL (aU (aB 1)))))
abbrev oo:Stmt:=(inClass (top 26) 7)
abbrev N_Net_leave:List Str:=["self","ride"]
def kr:MS:=bF (aK (lv0 bS) (aK (lv dI) (aK fIx (eV 1) (eC (.int 0))) (eC (.int 1440))) (aK fIx (aK fIx (df "Net" "legs" (eV 0)) (aK fIx (eV 1) (eC (.int 1)))) (eC (.int 3))))
def bP:MF:=ay 0 kr
theorem gT {P:Program} {w:World} {K:PySem.W.Frag} {mg:Str→Option Value} {base:Heap} (G:Gx P w K mg base):FnE P w K mg base 1 (He.ma K (He.ga K "Net") "leave") ["self","ride"] bP:=by
  obtain ⟨fd,F⟩:=G.f_Net_leave
  have fx:=G.fx
  refine ⟨fd,?_⟩
  refine ak (N:=N_Net_leave) (st:=oo) (k:=0) F ⟨rfl,rfl,rfl,by decide +kernel,rfl,by decide +kernel,by decide +kernel⟩ rfl (fun _ _ _ _ _ _ us hl=>match us,hl with|[_,_],_=>rfl) fun cdv A outer s H E hcd hp hr W tk=>?_
  have nd:N_Net_leave.Nodup:=by decide +kernel
  have hu1:=ru1 hr
  have hu64:=cM hr
  have hu65:=cN hr
  exact (aL (aU (aP ax (aP cP (aS hu1 (aB 1) aF) (bW fx.i_DAY)) (aS hu1 (aS hu1 (bV (aB 0) fx.d_Net fx.c_Net fx.a_Net_legs) (aS hu1 (aB 1) aF)) aF))))
abbrev oq:Stmt:=(top 20)
abbrev N_is_number:List Str:=["thing","low","high"]
def eI:MS:=bF (jx (eB cK (aC (eV 0) (aC (eC (.ty "int")) (aJ)))) (jx (eNot (eB cK (aC (eV 0) (aC (eC (.ty "bool")) (aJ))))) (ip (lv dLe) (lv dLe) (eV 1) (eV 0) (eV 2))))
def aO:MF:=ay 0 eI
theorem a0 {P:Program} {w:World} {K:PySem.W.Frag} {mg:Str→Option Value} {base:Heap} (G:Gx P w K mg base):FnE P w K mg base 1 (He.ga K "is_number") ["thing","low","high"] aO:=by
  obtain ⟨fd,F⟩:=G.f_is_number
  have fx:=G.fx
  refine ⟨fd,?_⟩
  refine ak (N:=N_is_number) (st:=oq) (k:=0) F ⟨rfl,rfl,rfl,by decide +kernel,rfl,by decide +kernel,by decide +kernel⟩ rfl (fun _ _ _ _ _ _ us hl=>match us,hl with|[_,_,_],_=>rfl) fun cdv A outer s H E hcd hp hr W tk=>?_
  have nd:N_is_number.Nodup:=by decide +kernel
  have hu1:=ru1 hr
  have hu64:=cM hr
  have hu65:=cN hr
  exact (aL (aU (fe (bj fW rfl fx.n_isinstance aj (aA (aB 0) (aA (fV rfl fx.n_int fF) aD))) (fe (sE_not (bj fW rfl fx.n_isinstance aj (aA (aB 0) (aA (fV rfl fx.n_bool xW) aD)))) (io (vE rN rN (aB 1) (aB 0) (aB 2)))))))
abbrev qf:Stmt:=(inClass (top 26) 1)
abbrev N_Net_goes:List Str:=["self","day","number"]
def mP:MS:=bF (jx (aR 3 aO (aC (eV 1) (aC (eC (.int 0)) (aC (eC (.int 60)) (aJ))))) (jx (aK fIn (eV 2) (df "Net" "legs" (eV 0))) (aK fIn (aK (lv lF) (eV 1) (eC (.int 7))) (aK fIx (aK fIx (df "Net" "legs" (eV 0)) (eV 2)) (eC (.int 5))))))
def fL:MF:=ay 0 mP
theorem qg {P:Program} {w:World} {K:PySem.W.Frag} {mg:Str→Option Value} {base:Heap} (G:Gx P w K mg base):FnE P w K mg base 2 (He.ma K (He.ga K "Net") "goes") ["self","day","number"] fL:=by
  obtain ⟨fd,F⟩:=G.f_Net_goes
  have fx:=G.fx
  refine ⟨fd,?_⟩
  refine ak (N:=N_Net_goes) (st:=qf) (k:=1) F ⟨rfl,rfl,rfl,by decide +kernel,rfl,by decide +kernel,by decide +kernel⟩ rfl (fun _ _ _ _ _ _ us hl=>match us,hl with|[_,_,_],_=>rfl) fun cdv A outer s H E hcd hp hr W tk=>?_
  have nd:N_Net_goes.Nodup:=by decide +kernel
  have hu1:=ru1 hr
  have hu64:=cM hr
  have hu65:=cN hr
  exact (aL (aU (fe (aN (ps:=["thing","low","high"]) (m:=aO) (a0 G) (hr.mono (by decide)) fx.d_is_number tk (aA (aB 1) (aA aF (aA (bW fx.i_MOST_DAY) aD)))) (fe (fb (pY hu65) (aB 2) (bV (aB 0) fx.d_Net fx.c_Net fx.a_Net_legs) (by with_unfolding_all rfl)) (io (fb (pY hu65) (aP gx (aB 1) (bW fx.i_WEEK)) (aS hu1 (aS hu1 (bV (aB 0) fx.d_Net fx.c_Net fx.a_Net_legs) (aB 2)) aF) (by with_unfolding_all rfl)))))))
abbrev gG:Stmt:=(inClass (top 26) 9)
abbrev N_Net_all_rides:List Str:=["self","first","last","found","day","number","ride"]
def gm:MS:=aV (qG (df "Net" "legs" (eV 0)) (bw 3 (mD (ll (aC (eV 1) (aC (aK (lv0 bS) (eV 2) (eC (.int 1))) (aJ)))) (gV 4) (c5) (cF (df "Net" "legs" (eV 0))) (gV 5) (cQ (cu "Net" "goes" 3 fL (eV 0) (aC (eV 4) (aC (eV 5) (aJ))))) (cx (aC (eV 4) (aC (eV 5) (aJ)))) [4,5] [5])))
  (bF (fz (eV 3) 6 (cx (aC (cu "Net" "leave" 2 bP (eV 0) (aC (eV 6) (aJ))) (aC (aK fIx (eV 6) (eC (.int 1))) (aJ))))))
def a7:MF:=ay 4 gm
theorem dt {P:Program} {w:World} {K:PySem.W.Frag} {mg:Str→Option Value} {base:Heap} (G:Gx P w K mg base):FnE P w K mg base 5 (He.ma K (He.ga K "Net") "all_rides") ["self","first","last"] a7:=by
  obtain ⟨fd,F⟩:=G.f_Net_all_rides
  have fx:=G.fx
  refine ⟨fd,?_⟩
  refine ak (N:=N_Net_all_rides) (st:=gG) (k:=4) F ⟨rfl,rfl,rfl,by decide +kernel,rfl,by decide +kernel,by decide +kernel⟩ rfl (fun _ _ _ _ _ _ us hl=>match us,hl with|[_,_,_],_=>rfl) fun cdv A outer s H E hcd hp hr W tk=>?_
  have nd:N_Net_all_rides.Nodup:=by decide +kernel
  have hu1:=ru1 hr
  have hu64:=cM hr
  have hu65:=cN hr
  have lh:=rg (X:=cxOf (L2N.CX P w) P w K mg base N_Net_all_rides "Net.all_rides" (defScope gG) (He.ma K (He.ga K "Net") "all_rides") cdv A outer s H E) (p:=("Net",some "all_rides")) F rfl (G.tb (("Net",some "all_rides"),"Net.all_rides.<locals>.<lambda>") (by decide)) hcd.symm rfl (G.tm (("Net",some "all_rides"),"Net.all_rides.<locals>.<lambda>") (by decide)) (G.tu (("Net",some "all_rides"),"Net.all_rides.<locals>.<lambda>") (by decide))
  exact (aI (xb (qI (own:=[("day",4),("number",5)]) (vs1:=[5]) (i:=3) rfl nd rfl rfl rfl (tN rfl fx.n_range (aA (aB 1) (aA (aP ax (aB 2) aF) aD))) (blkOk_by (by kernel_rfl)) (by decide) (fun _ _ _ _ _=>(ai (i:=4) nd rfl (by first|exact .inl rfl|exact .inr rfl) (by decide))) (fun _ _ _ _ _=>bz) (fun _ _ _ _ _=>(az (bV (aB 0) fx.d_Net fx.c_Net fx.a_Net_legs))) (fun _ _ _ _ _=>(ai (i:=5) nd rfl (by first|exact .inl rfl|exact .inr rfl) (by decide))) (fun _ _ _ _ _=>(dP (a9 (ck (pl:=plainOf _ _) (ps:=["self","day","number"]) (m:=fL) (aB 0) fx.d_Net fx.c_Net fx.m_Net_goes (qg G) (hr.mono (by decide)) takes0 (aA (aB 4) (aA (aB 5) aD)))))) (fun _ _ _ _ _=>(bE (aA (aB 4) (aA (aB 5) aD))))))
    (aL (aU (rp (k:=1) (i:=6) (x:="ride") rfl fx.n_sorted lh (hr.mono (by decide)) hu65 (vf (by kernel_rfl)) nd rfl (aB 3) (fun A outer s H f c' hr=>by
    have hu1:=ru1 hr
    have hu64:=cM hr
    have hu65:=cN hr
    exact (bE (aA (ck (pl:=plainOf _ _) (ps:=["self","ride"]) (m:=bP) (aB 0) fx.d_Net fx.c_Net fx.m_Net_leave (gT G) (hr.mono (by decide)) takes0 (aA (aB 6) aD)) (aA (aS hu1 (aB 6) aF) aD))))))))
abbrev gp:Stmt:=(inClass (top 34) 1)
abbrev N_Matcher_grow:List Str:=["self","ride","met","other"]
def bQ:Nat→MF
  | 0=>ay 1 iq
  | n+1=>ay 1 (aV (fv (cF (aK fIx (df "Matcher" "nexts" (eV 0)) (eV 1))) (gV 3) (sIf (tOf (aK cZ (eV 3) (eV 2))) (aV (fg (eC (.bool true)) (fY (eV 2) (eV 3)))
  (sIf (dJ (tOf (aK cZ (eV 3) (df "Matcher" "behind" (eV 0)))) (cQ (cu "Matcher" "grow" 3 (bQ n) (eV 0) (aC (aK fIx (df "Matcher" "behind" (eV 0)) (eV 3)) (aC (eV 2) (aJ)))))) (aV (fg (eV 1) (fY (df "Matcher" "behind" (eV 0)) (eV 3)))
  (aV (fg (eV 3) (fY (df "Matcher" "ahead" (eV 0)) (eV 1)))
  (bF (eC (.bool true))))) (b4))) (b4)))
  (bF (eC (.bool false))))
theorem gq {P:Program} {w:World} {K:PySem.W.Frag} {mg:Str→Option Value} {base:Heap} (G:Gx P w K mg base):∀n:Nat,FnE P w K mg base (n+1) (He.ma K (He.ga K "Matcher") "grow") ["self","ride","met"] (bQ n)
  | 0=>by
    obtain ⟨fd,F⟩:=G.f_Matcher_grow
    have h:FnE P w K mg base 1 (He.ma K (He.ga K "Matcher") "grow") ["self","ride","met"] (ay 1 iq):=by
      refine ⟨fd,?_⟩
      refine ak (N:=N_Matcher_grow) (st:=gp) (k:=0) F ⟨rfl,rfl,rfl,by decide +kernel,rfl,by decide +kernel,by decide +kernel⟩ rfl (fun _ _ _ _ _ _ us hl=>match us,hl with|[_,_,_],_=>rfl) fun cdv A outer s H E hcd hp hr W tk=>?_
      exact nU
    rw[Nat.zero_add]
    exact h
  | n+1=>by
    have ih:=gq G n
    obtain ⟨fd,F⟩:=G.f_Matcher_grow
    have fx:=G.fx
    have h:FnE P w K mg base (n+1+1) (He.ma K (He.ga K "Matcher") "grow") ["self","ride","met"] (bQ (n+1)):=by
      refine ⟨fd,?_⟩
      refine ak (N:=N_Matcher_grow) (st:=gp) (k:=n+1) F ⟨rfl,rfl,rfl,by decide +kernel,rfl,by decide +kernel,by decide +kernel⟩ rfl (fun _ _ _ _ _ _ us hl=>match us,hl with|[_,_,_],_=>rfl) fun cdv A outer s H E hcd hp hr W tk=>?_
      have nd:N_Matcher_grow.Nodup:=by decide +kernel
      have hu1:=ru1 hr
      have hu64:=cM hr
      have hu65:=cN hr
      exact (aI (cc hp rfl (az (aS hu1 (bV (aB 0) fx.d_Matcher fx.c_Matcher fx.a_Matcher_nexts) (aB 1))) (aZ (i:=3) nd rfl (by first|exact .inl rfl|exact .inr rfl)) (aL (bH (aY (cS hu65) (aB 3) (aB 2) (by with_unfolding_all rfl)) (aI (cR bC (fE hu1 (aB 2) (aB 3)))
    (aL (bH (br (cC (aY (cS hu65) (aB 3) (bV (aB 0) fx.d_Matcher fx.c_Matcher fx.a_Matcher_behind) (by with_unfolding_all rfl)) (cD (a9 (ck (pl:=plainOf _ _) (ps:=["self","ride","met"]) (m:=(bQ n)) (aB 0) fx.d_Matcher fx.c_Matcher fx.m_Matcher_grow ih hr tk (aA (aS hu1 (bV (aB 0) fx.d_Matcher fx.c_Matcher fx.a_Matcher_behind) (aB 3)) (aA (aB 2) aD))))))) (aI (cR (aB 1) (fE hu1 (bV (aB 0) fx.d_Matcher fx.c_Matcher fx.a_Matcher_behind) (aB 3)))
    (aI (cR (aB 3) (fE hu1 (bV (aB 0) fx.d_Matcher fx.c_Matcher fx.a_Matcher_ahead) (aB 1)))
    (aL (aU bC)))) aa))) aa)))
    (aL (aU bC)))
    rw[show n+1+1=n+1+1 by omega]
    exact h
abbrev qh:Stmt:=(inClass (top 26) 5)
abbrev N_Net_long:List Str:=["self","ride"]
def mQ:MS:=bF (aK fIx (aK fIx (df "Net" "legs" (eV 0)) (aK fIx (eV 1) (eC (.int 1)))) (eC (.int 4)))
def fM:MF:=ay 0 mQ
theorem qi {P:Program} {w:World} {K:PySem.W.Frag} {mg:Str→Option Value} {base:Heap} (G:Gx P w K mg base):FnE P w K mg base 1 (He.ma K (He.ga K "Net") "long") ["self","ride"] fM:=by
  obtain ⟨fd,F⟩:=G.f_Net_long
  have fx:=G.fx
  refine ⟨fd,?_⟩
  refine ak (N:=N_Net_long) (st:=qh) (k:=0) F ⟨rfl,rfl,rfl,by decide +kernel,rfl,by decide +kernel,by decide +kernel⟩ rfl (fun _ _ _ _ _ _ us hl=>match us,hl with|[_,_],_=>rfl) fun cdv A outer s H E hcd hp hr W tk=>?_
  have nd:N_Net_long.Nodup:=by decide +kernel
  have hu1:=ru1 hr
  have hu64:=cM hr
  have hu65:=cN hr
  exact (aL (aU (aS hu1 (aS hu1 (bV (aB 0) fx.d_Net fx.c_Net fx.a_Net_legs) (aS hu1 (aB 1) aF)) aF)))
abbrev mw:Stmt:=(inClass (top 26) 8)
abbrev N_Net_arrive:List Str:=["self","ride"]
def jg:MS:=bF (aK (lv0 bS) (cu "Net" "leave" 2 bP (eV 0) (aC (eV 1) (aJ))) (cu "Net" "long" 2 fM (eV 0) (aC (eV 1) (aJ))))
def cq:MF:=ay 0 jg
theorem mx {P:Program} {w:World} {K:PySem.W.Frag} {mg:Str→Option Value} {base:Heap} (G:Gx P w K mg base):FnE P w K mg base 2 (He.ma K (He.ga K "Net") "arrive") ["self","ride"] cq:=by
  obtain ⟨fd,F⟩:=G.f_Net_arrive
  have fx:=G.fx
  refine ⟨fd,?_⟩
  refine ak (N:=N_Net_arrive) (st:=mw) (k:=1) F ⟨rfl,rfl,rfl,by decide +kernel,rfl,by decide +kernel,by decide +kernel⟩ rfl (fun _ _ _ _ _ _ us hl=>match us,hl with|[_,_],_=>rfl) fun cdv A outer s H E hcd hp hr W tk=>?_
  have nd:N_Net_arrive.Nodup:=by decide +kernel
  have hu1:=ru1 hr
  have hu64:=cM hr
  have hu65:=cN hr
  exact (aL (aU (aP ax (ck (pl:=plainOf _ _) (ps:=["self","ride"]) (m:=bP) (aB 0) fx.d_Net fx.c_Net fx.m_Net_leave (gT G) (hr.mono (by decide)) tk (aA (aB 1) aD)) (ck (pl:=plainOf _ _) (ps:=["self","ride"]) (m:=fM) (aB 0) fx.d_Net fx.c_Net fx.m_Net_long (qi G) (hr.mono (by decide)) tk (aA (aB 1) aD)))))
abbrev qj:Stmt:=(inClass (top 26) 4)
abbrev N_Net_goal:List Str:=["self","ride"]
def mR:MS:=bF (aK fIx (aK fIx (df "Net" "legs" (eV 0)) (aK fIx (eV 1) (eC (.int 1)))) (eC (.int 2)))
def du:MF:=ay 0 mR
theorem qk {P:Program} {w:World} {K:PySem.W.Frag} {mg:Str→Option Value} {base:Heap} (G:Gx P w K mg base):FnE P w K mg base 1 (He.ma K (He.ga K "Net") "goal") ["self","ride"] du:=by
  obtain ⟨fd,F⟩:=G.f_Net_goal
  have fx:=G.fx
  refine ⟨fd,?_⟩
  refine ak (N:=N_Net_goal) (st:=qj) (k:=0) F ⟨rfl,rfl,rfl,by decide +kernel,rfl,by decide +kernel,by decide +kernel⟩ rfl (fun _ _ _ _ _ _ us hl=>match us,hl with|[_,_],_=>rfl) fun cdv A outer s H E hcd hp hr W tk=>?_
  have nd:N_Net_goal.Nodup:=by decide +kernel
  have hu1:=ru1 hr
  have hu64:=cM hr
  have hu65:=cN hr
  exact (aL (aU (aS hu1 (aS hu1 (bV (aB 0) fx.d_Net fx.c_Net fx.a_Net_legs) (aS hu1 (aB 1) aF)) aF)))
abbrev ot:Stmt:=(inClass (top 26) 3)
abbrev N_Net_start:List Str:=["self","ride"]
def ku:MS:=bF (aK fIx (aK fIx (df "Net" "legs" (eV 0)) (aK fIx (eV 1) (eC (.int 1)))) (eC (.int 1)))
def dF:MF:=ay 0 ku
theorem ou {P:Program} {w:World} {K:PySem.W.Frag} {mg:Str→Option Value} {base:Heap} (G:Gx P w K mg base):FnE P w K mg base 1 (He.ma K (He.ga K "Net") "start") ["self","ride"] dF:=by
  obtain ⟨fd,F⟩:=G.f_Net_start
  have fx:=G.fx
  refine ⟨fd,?_⟩
  refine ak (N:=N_Net_start) (st:=ot) (k:=0) F ⟨rfl,rfl,rfl,by decide +kernel,rfl,by decide +kernel,by decide +kernel⟩ rfl (fun _ _ _ _ _ _ us hl=>match us,hl with|[_,_],_=>rfl) fun cdv A outer s H E hcd hp hr W tk=>?_
  have nd:N_Net_start.Nodup:=by decide +kernel
  have hu1:=ru1 hr
  have hu64:=cM hr
  have hu65:=cN hr
  exact (aL (aU (aS hu1 (aS hu1 (bV (aB 0) fx.d_Net fx.c_Net fx.a_Net_legs) (aS hu1 (aB 1) aF)) aF)))
abbrev my:Stmt:=(top 33)
abbrev N_can_follow:List Str:=["held","turn","one","other"]
def jh:MS:=bF (jx (aK (lv dEq) (cu "Net" "goal" 2 du (eV 0) (aC (eV 2) (aJ))) (cu "Net" "start" 2 dF (eV 0) (aC (eV 3) (aJ)))) (aK (lv dLe) (aK (lv0 bS) (cu "Net" "arrive" 2 cq (eV 0) (aC (eV 2) (aJ))) (eV 1)) (cu "Net" "leave" 2 bP (eV 0) (aC (eV 3) (aJ)))))
def bX:MF:=ay 0 jh
theorem iY {P:Program} {w:World} {K:PySem.W.Frag} {mg:Str→Option Value} {base:Heap} (G:Gx P w K mg base):FnE P w K mg base 3 (He.ga K "can_follow") ["held","turn","one","other"] bX:=by
  obtain ⟨fd,F⟩:=G.f_can_follow
  have fx:=G.fx
  refine ⟨fd,?_⟩
  refine ak (N:=N_can_follow) (st:=my) (k:=2) F ⟨rfl,rfl,rfl,by decide +kernel,rfl,by decide +kernel,by decide +kernel⟩ rfl (fun _ _ _ _ _ _ us hl=>match us,hl with|[_,_,_,_],_=>rfl) fun cdv A outer s H E hcd hp hr W tk=>?_
  have nd:N_can_follow.Nodup:=by decide +kernel
  have hu1:=ru1 hr
  have hu64:=cM hr
  have hu65:=cN hr
  exact (aL (aU (fe (fb (lG hu64) (ck (pl:=plainOf _ _) (ps:=["self","ride"]) (m:=du) (aB 0) fx.d_Net fx.c_Net fx.m_Net_goal (qk G) (hr.mono (by decide)) tk (aA (aB 2) aD)) (ck (pl:=plainOf _ _) (ps:=["self","ride"]) (m:=dF) (aB 0) fx.d_Net fx.c_Net fx.m_Net_start (ou G) (hr.mono (by decide)) tk (aA (aB 3) aD)) (by with_unfolding_all rfl)) (io (fb rN (aP ax (ck (pl:=plainOf _ _) (ps:=["self","ride"]) (m:=cq) (aB 0) fx.d_Net fx.c_Net fx.m_Net_arrive (mx G) (hr.mono (by decide)) tk (aA (aB 2) aD)) (aB 1)) (ck (pl:=plainOf _ _) (ps:=["self","ride"]) (m:=bP) (aB 0) fx.d_Net fx.c_Net fx.m_Net_leave (gT G) (hr.mono (by decide)) tk (aA (aB 3) aD)) (by with_unfolding_all rfl))))))
abbrev ji:Stmt:=(inClass (top 34) 0)
abbrev N_Matcher_init__:List Str:=["self","held","turn","rides","ride","one","other"]
def gH:MS:=aV (jP "Matcher" "every" (eV 0) (eV 3))
  (aV (jP "Matcher" "nexts" (eV 0) (iP (cF (eV 3)) (gV 5) (c5) (eV 5) (bv (cF (eV 3)) (gV 6) (cQ (aR 4 bX (aC (eV 1) (aC (eV 2) (aC (eV 5) (aC (eV 6) (aJ))))))) (eV 6) [6]) [5]))
  (aV (jP "Matcher" "behind" (eV 0) (oQ true))
  (aV (jP "Matcher" "ahead" (eV 0) (oQ true))
  (fv (cF (eV 3)) (gV 4) (dL (cu "Matcher" "grow" 3 (bQ 120) (eV 0) (aC (eV 4) (aC (oQ true) (aJ)))))))))
def b7:MF:=ay 3 gH
theorem jj {P:Program} {w:World} {K:PySem.W.Frag} {mg:Str→Option Value} {base:Heap} (G:Gx P w K mg base):FnE P w K mg base 122 (He.ma K (He.ga K "Matcher") "__init__") ["self","held","turn","rides"] b7:=by
  obtain ⟨fd,F⟩:=G.f_Matcher_init__
  have fx:=G.fx
  refine ⟨fd,?_⟩
  refine ak (N:=N_Matcher_init__) (st:=ji) (k:=121) F ⟨rfl,rfl,rfl,by decide +kernel,rfl,by decide +kernel,by decide +kernel⟩ rfl (fun _ _ _ _ _ _ us hl=>match us,hl with|[_,_,_,_],_=>rfl) fun cdv A outer s H E hcd hp hr W tk=>?_
  have nd:N_Matcher_init__.Nodup:=by decide +kernel
  have hu1:=ru1 hr
  have hu64:=cM hr
  have hu65:=cN hr
  exact (aI (j2 (aB 3) (aB 0) fx.d_Matcher fx.c_Matcher fx.a_Matcher_every)
    (aI (j2 (n9 (own:=[("one",5)]) hu65 rfl nd (az (aB 3)) (blkOk_by (by kernel_rfl)) (fun _ _ _ _ _=>(ai (i:=5) nd rfl (by first|exact .inl rfl|exact .inr rfl) (by decide))) (fun _ _ _ _ _=>bz) (fun _ _ _ _ _=>(aB 5)) (fun _ _ _ _ _=>(bi (own:=[("other",6)]) rfl nd (az (aB 3)) (blkOk_by (by kernel_rfl)) (fun _ _ _ _ _=>(ai (i:=6) nd rfl (by first|exact .inl rfl|exact .inr rfl) (by decide))) (fun _ _ _ _ _=>(dP (a9 (aN (ps:=["held","turn","one","other"]) (m:=bX) (iY G) (hr.mono (by decide)) fx.d_can_follow takes0 (aA (aB 1) (aA (aB 2) (aA (aB 5) (aA (aB 6) aD)))))))) (fun _ _ _ _ _=>(aB 6))))) (aB 0) fx.d_Matcher fx.c_Matcher fx.a_Matcher_nexts)
    (aI (j2 iK (aB 0) fx.d_Matcher fx.c_Matcher fx.a_Matcher_behind)
    (aI (j2 iK (aB 0) fx.d_Matcher fx.c_Matcher fx.a_Matcher_ahead)
    (aL (cc hp rfl (az (aB 3)) (aZ (i:=4) nd rfl (by first|exact .inl rfl|exact .inr rfl)) (aL (bx (ck (pl:=plainOf _ _) (ps:=["self","ride","met"]) (m:=(bQ 120)) (aB 0) fx.d_Matcher fx.c_Matcher fx.m_Matcher_grow (gq G 120) (hr.mono (by decide)) tk (aA (aB 4) (aA iK aD)))))))))))
abbrev ow:Stmt:=(top 27)
abbrev N_need_days:List Str:=["first","last"]
def kw:MS:=sIf (dJ (bu (cQ (aR 3 aO (aC (eV 0) (aC (eC (.int 0)) (aC (eC (.int 60)) (aJ))))))) (bu (cQ (aR 3 aO (aC (eV 1) (aC (eV 0) (aC (eC (.int 60)) (aJ)))))))) (l8 "BadDay") (b4)
def bp:MF:=ay 0 kw
theorem gU {P:Program} {w:World} {K:PySem.W.Frag} {mg:Str→Option Value} {base:Heap} (G:Gx P w K mg base):FnE P w K mg base 2 (He.ga K "need_days") ["first","last"] bp:=by
  obtain ⟨fd,F⟩:=G.f_need_days
  have fx:=G.fx
  refine ⟨fd,?_⟩
  refine ak (N:=N_need_days) (st:=ow) (k:=1) F ⟨rfl,rfl,rfl,by decide +kernel,rfl,by decide +kernel,by decide +kernel⟩ rfl (fun _ _ _ _ _ _ us hl=>match us,hl with|[_,_],_=>rfl) fun cdv A outer s H E hcd hp hr W tk=>?_
  have nd:N_need_days.Nodup:=by decide +kernel
  have hu1:=ru1 hr
  have hu64:=cM hr
  have hu65:=cN hr
  exact (aL (bH (br (cC (bU (a9 (aN (ps:=["thing","low","high"]) (m:=aO) (a0 G) (hr.mono (by decide)) fx.d_is_number tk (aA (aB 0) (aA aF (aA (bW fx.i_MOST_DAY) aD)))))) (cD (bU (a9 (aN (ps:=["thing","low","high"]) (m:=aO) (a0 G) (hr.mono (by decide)) fx.d_is_number tk (aA (aB 1) (aA (aB 0) (aA (bW fx.i_MOST_DAY) aD))))))))) (aL (qA rfl tk fx.x_BadDay fx.d_BadDay rfl)) aa))
abbrev oy:Stmt:=(top 32)
abbrev N_need_turn:List Str:=["turn"]
def ky:MS:=sIf (bu (cQ (aR 3 aO (aC (eV 0) (aC (eC (.int 10)) (aC (eC (.int 300)) (aJ))))))) (l8 "BadCount") (b4)
def cj:MF:=ay 0 ky
theorem jk {P:Program} {w:World} {K:PySem.W.Frag} {mg:Str→Option Value} {base:Heap} (G:Gx P w K mg base):FnE P w K mg base 2 (He.ga K "need_turn") ["turn"] cj:=by
  obtain ⟨fd,F⟩:=G.f_need_turn
  have fx:=G.fx
  refine ⟨fd,?_⟩
  refine ak (N:=N_need_turn) (st:=oy) (k:=1) F ⟨rfl,rfl,rfl,by decide +kernel,rfl,by decide +kernel,by decide +kernel⟩ rfl (fun _ _ _ _ _ _ us hl=>match us,hl with|[_],_=>rfl) fun cdv A outer s H E hcd hp hr W tk=>?_
  have nd:N_need_turn.Nodup:=by decide +kernel
  have hu1:=ru1 hr
  have hu64:=cM hr
  have hu65:=cN hr
  exact (aL (bH (bU (a9 (aN (ps:=["thing","low","high"]) (m:=aO) (a0 G) (hr.mono (by decide)) fx.d_is_number tk (aA (aB 0) (aA (bW fx.i_LEAST_TURN) (aA (bW fx.i_MOST_TURN) aD)))))) (aL (qA rfl tk fx.x_BadCount fx.d_BadCount rfl)) aa))
abbrev ql:Stmt:=(top 23)
abbrev N_are_days:List Str:=["days","day","one","other"]
def mS:MS:=aV (sIf (dJ (bu (cQ (eB cK (aC (eV 0) (aC (eC (.ty "tuple")) (aJ)))))) (dJ (tOf (aK (lv dEq) (eV 0) (cx (aJ)))) (bu (cQ (eB j3 (aC (bv (cF (eV 0)) (gV 1) (c5) (aR 3 aO (aC (eV 1) (aC (eC (.int 0)) (aC (aK (lv pS) (eC (.int 7)) (eC (.int 1))) (aJ))))) [1]) (aJ))))))) (bF (eC (.bool false))) (b4))
  (bF (eB j3 (aC (bv (tQ (aC (eV 0) (aC (oO (eV 0) (jJ (eC (.int 1))) (pNo)) (aJ)))) (dg 2 (au (gV 2) (au (gV 3) (eW)))) (c5) (aK (lv dLt) (eV 2) (eV 3)) [2,3]) (aJ))))
def fN:MF:=ay 3 mS
theorem qm {P:Program} {w:World} {K:PySem.W.Frag} {mg:Str→Option Value} {base:Heap} (G:Gx P w K mg base):FnE P w K mg base 2 (He.ga K "are_days") ["days"] fN:=by
  obtain ⟨fd,F⟩:=G.f_are_days
  have fx:=G.fx
  refine ⟨fd,?_⟩
  refine ak (N:=N_are_days) (st:=ql) (k:=1) F ⟨rfl,rfl,rfl,by decide +kernel,rfl,by decide +kernel,by decide +kernel⟩ rfl (fun _ _ _ _ _ _ us hl=>match us,hl with|[_],_=>rfl) fun cdv A outer s H E hcd hp hr W tk=>?_
  have nd:N_are_days.Nodup:=by decide +kernel
  have hu1:=ru1 hr
  have hu64:=cM hr
  have hu65:=cN hr
  exact (aI (bH (br (cC (bU (a9 (bj fW rfl fx.n_isinstance aj (aA (aB 0) (aA (fV rfl fx.n_tuple bN) aD))))) (cC (aY (lG hu64) (aB 0) (bE aD) (by with_unfolding_all rfl)) (cD (bU (a9 (bj (p0 rfl) rfl fx.n_all l9 (aA (bi (own:=[("day",1)]) rfl nd (az (aB 0)) (blkOk_by (by kernel_rfl)) (fun _ _ _ _ _=>(ai (i:=1) nd rfl (by first|exact .inl rfl|exact .inr rfl) (by decide))) (fun _ _ _ _ _=>bz) (fun _ _ _ _ _=>(aN (ps:=["thing","low","high"]) (m:=aO) (a0 G) (hr.mono (by decide)) fx.d_is_number takes0 (aA (aB 1) (aA aF (aA (aP lg (bW fx.i_WEEK) aF) aD)))))) aD)))))))) (aL (aU bC)) aa)
    (aL (aU (bj (p0 rfl) rfl fx.n_all l9 (aA (bi (own:=[("one",2),("other",3)]) rfl nd (pI_zip rfl fx.n_zip (aA (aB 0) (aA (jw (aB 0) (iJ aF) nF) aD))) (blkOk_by (by kernel_rfl)) (fun _ _ _ _ _=>(oV rfl (dO (ai (i:=2) nd rfl (by first|exact .inl rfl|exact .inr rfl) (by decide)) (dO (ai (i:=3) nd rfl (by first|exact .inl rfl|exact .inr rfl) (by decide)) lL)))) (fun _ _ _ _ _=>bz) (fun _ _ _ _ _=>(fb o_lt (aB 2) (aB 3) (by with_unfolding_all rfl)))) aD)))))
abbrev uf:Stmt:=(top 24)
abbrev N_is_leg:List Str:=["leg","ahead","names","number","start","goal","out","long","days","fare","one"]
def qo:MS:=aV (sIf (dJ (bu (cQ (eB cK (aC (eV 0) (aC (eC (.ty "tuple")) (aJ)))))) (tOf (aK (lv dNe) (eB cg (aC (eV 0) (aJ))) (eC (.int 7))))) (bF (eC (.bool false))) (b4))
  (aV (fg (eV 0) (dg 7 (au (gV 3) (au (gV 4) (au (gV 5) (au (gV 6) (au (gV 7) (au (gV 8) (au (gV 9) (eW))))))))))
  (aV (sIf (dJ (bu (cQ (aR 3 aO (aC (eV 3) (aC (eC (.int 1)) (aC (eC (.int 9999)) (aJ))))))) (tOf (aK fIn (eV 3) (bv (cF (eV 1)) (gV 10) (c5) (aK fIx (eV 10) (eC (.int 0))) [10])))) (bF (eC (.bool false))) (b4))
  (aV (sIf (dJ (bu (cQ (eB cK (aC (eV 4) (aC (eC (.ty "str")) (aJ)))))) (dJ (bu (cQ (eB cK (aC (eV 5) (aC (eC (.ty "str")) (aJ)))))) (tOf (aK (lv dEq) (eV 4) (eV 5))))) (bF (eC (.bool false))) (b4))
  (aV (sIf (dJ (tOf (aK cZ (eV 4) (eV 2))) (dJ (tOf (aK cZ (eV 5) (eV 2))) (bu (cQ (aR 1 fN (aC (eV 8) (aJ))))))) (bF (eC (.bool false))) (b4))
  (bF (jx (aR 3 aO (aC (eV 6) (aC (eC (.int 0)) (aC (aK (lv pS) (eC (.int 1440)) (eC (.int 1))) (aJ))))) (jx (aR 3 aO (aC (eV 7) (aC (eC (.int 20)) (aC (eC (.int 900)) (aJ))))) (aR 3 aO (aC (eV 9) (aC (eC (.int 1)) (aC (eC (.int 100000)) (aJ))))))))))))
def hY:MF:=ay 8 qo
theorem ug {P:Program} {w:World} {K:PySem.W.Frag} {mg:Str→Option Value} {base:Heap} (G:Gx P w K mg base):FnE P w K mg base 3 (He.ga K "is_leg") ["leg","ahead","names"] hY:=by
  obtain ⟨fd,F⟩:=G.f_is_leg
  have fx:=G.fx
  refine ⟨fd,?_⟩
  refine ak (N:=N_is_leg) (st:=uf) (k:=2) F ⟨rfl,rfl,rfl,by decide +kernel,rfl,by decide +kernel,by decide +kernel⟩ rfl (fun _ _ _ _ _ _ us hl=>match us,hl with|[_,_,_],_=>rfl) fun cdv A outer s H E hcd hp hr W tk=>?_
  have nd:N_is_leg.Nodup:=by decide +kernel
  have hu1:=ru1 hr
  have hu64:=cM hr
  have hu65:=cN hr
  exact (aI (bH (br (cC (bU (a9 (bj fW rfl fx.n_isinstance aj (aA (aB 0) (aA (fV rfl fx.n_tuple bN) aD))))) (cD (aY (ig hu64) (bj dR rfl fx.n_len cG (aA (aB 0) aD)) aF (by with_unfolding_all rfl))))) (aL (aU bC)) aa)
    (aI (cR (aB 0) (gQ rfl (aq (aZ (i:=3) nd rfl (by first|exact .inl rfl|exact .inr rfl)) (aq (aZ (i:=4) nd rfl (by first|exact .inl rfl|exact .inr rfl)) (aq (aZ (i:=5) nd rfl (by first|exact .inl rfl|exact .inr rfl)) (aq (aZ (i:=6) nd rfl (by first|exact .inl rfl|exact .inr rfl)) (aq (aZ (i:=7) nd rfl (by first|exact .inl rfl|exact .inr rfl)) (aq (aZ (i:=8) nd rfl (by first|exact .inl rfl|exact .inr rfl)) (aq (aZ (i:=9) nd rfl (by first|exact .inl rfl|exact .inr rfl)) eg)))))))))
    (aI (bH (br (cC (bU (a9 (aN (ps:=["thing","low","high"]) (m:=aO) (a0 G) (hr.mono (by decide)) fx.d_is_number tk (aA (aB 3) (aA aF (aA (bW fx.i_MOST_NUMBER) aD)))))) (cD (aY (pY hu65) (aB 3) (bi (own:=[("one",10)]) rfl nd (az (aB 1)) (blkOk_by (by kernel_rfl)) (fun _ _ _ _ _=>(ai (i:=10) nd rfl (by first|exact .inl rfl|exact .inr rfl) (by decide))) (fun _ _ _ _ _=>bz) (fun _ _ _ _ _=>(aS hu1 (aB 10) aF))) (by with_unfolding_all rfl))))) (aL (aU bC)) aa)
    (aI (bH (br (cC (bU (a9 (bj fW rfl fx.n_isinstance aj (aA (aB 4) (aA (fV rfl fx.n_str rh) aD))))) (cC (bU (a9 (bj fW rfl fx.n_isinstance aj (aA (aB 5) (aA (fV rfl fx.n_str rh) aD))))) (cD (aY (lG hu64) (aB 4) (aB 5) (by with_unfolding_all rfl)))))) (aL (aU bC)) aa)
    (aI (bH (br (cC (aY (cS hu65) (aB 4) (aB 2) (by with_unfolding_all rfl)) (cC (aY (cS hu65) (aB 5) (aB 2) (by with_unfolding_all rfl)) (cD (bU (a9 (aN (ps:=["days"]) (m:=fN) (qm G) (hr.mono (by decide)) fx.d_are_days tk (aA (aB 8) aD)))))))) (aL (aU bC)) aa)
    (aL (aU (fe (aN (ps:=["thing","low","high"]) (m:=aO) (a0 G) (hr.mono (by decide)) fx.d_is_number tk (aA (aB 6) (aA aF (aA (aP lg (bW fx.i_DAY) aF) aD)))) (fe (aN (ps:=["thing","low","high"]) (m:=aO) (a0 G) (hr.mono (by decide)) fx.d_is_number tk (aA (aB 7) (aA (bW fx.i_LEAST_LONG) (aA (bW fx.i_MOST_LONG) aD)))) (io (aN (ps:=["thing","low","high"]) (m:=aO) (a0 G) (hr.mono (by decide)) fx.d_is_number tk (aA (aB 9) (aA aF (aA (bW fx.i_MOST_FARE) aD))))))))))))))
theorem b9 {P:Program} {w:World} {K:PySem.W.Frag} {mg:Str→Option Value} {base:Heap} (G:Gx P w K mg base):∃fd,FnOk P w K mg base C8.CX0 1 (He.ma K (He.ga K "BadNet") "__init__") fd ["self","part","number"] (spI (He.ga K "BadNet") ["part","number"])∧Binds K fd ["self","part","number"] []:=by
  obtain ⟨fd,F⟩:=G.f_BadNet_init__
  have fx:=G.fx
  exact ⟨fd,vq (k:=0) fx.e_BadNet F ⟨rfl,rfl,rfl,by decide +kernel,rfl,by decide +kernel,by decide +kernel⟩ fx.d_AirError rfl rfl (fun _ _=>⟨plainOf _ _,rfl⟩),F.bindsN (fun _ _ _ _ _ _ us hl=>match us,hl with|[_,_,_],_=>rfl)⟩
abbrev sR:Stmt:=(top 21)
abbrev N_is_word:List Str:=["thing","least","most","sign"]
def oA:MS:=aV (sIf (dJ (bu (cQ (eB cK (aC (eV 0) (aC (eC (.ty "str")) (aJ)))))) (bu (tOf (ip (lv dLe) (lv dLe) (eV 1) (eB cg (aC (eV 0) (aJ))) (eV 2))))) (bF (eC (.bool false))) (b4))
  (bF (eB j3 (aC (bv (cF (eV 0)) (gV 3) (c5) (aK fIn (eV 3) (eC (.str "abcdefghijklmnopqrstuvwxyz"))) [3]) (aJ))))
def gI:MF:=ay 1 oA
theorem sS {P:Program} {w:World} {K:PySem.W.Frag} {mg:Str→Option Value} {base:Heap} (G:Gx P w K mg base):FnE P w K mg base 1 (He.ga K "is_word") ["thing","least","most"] gI:=by
  obtain ⟨fd,F⟩:=G.f_is_word
  have fx:=G.fx
  refine ⟨fd,?_⟩
  refine ak (N:=N_is_word) (st:=sR) (k:=0) F ⟨rfl,rfl,rfl,by decide +kernel,rfl,by decide +kernel,by decide +kernel⟩ rfl (fun _ _ _ _ _ _ us hl=>match us,hl with|[_,_,_],_=>rfl) fun cdv A outer s H E hcd hp hr W tk=>?_
  have nd:N_is_word.Nodup:=by decide +kernel
  have hu1:=ru1 hr
  have hu64:=cM hr
  have hu65:=cN hr
  exact (aI (bH (br (cC (bU (a9 (bj fW rfl fx.n_isinstance aj (aA (aB 0) (aA (fV rfl fx.n_str rh) aD))))) (cD (bU (vF rN rN (aB 1) (bj dR rfl fx.n_len cG (aA (aB 0) aD)) (aB 2)))))) (aL (aU bC)) aa)
    (aL (aU (bj (p0 rfl) rfl fx.n_all l9 (aA (bi (own:=[("sign",3)]) rfl nd (az (aB 0)) (blkOk_by (by kernel_rfl)) (fun _ _ _ _ _=>(ai (i:=3) nd rfl (by first|exact .inl rfl|exact .inr rfl) (by decide))) (fun _ _ _ _ _=>bz) (fun _ _ _ _ _=>(fb (pY hu65) (aB 3) (xV fx.s_LETTERS) (by with_unfolding_all rfl)))) aD)))))
abbrev qp:Stmt:=(top 22)
abbrev N_is_place:List Str:=["place","ahead","name","change"]
def mU:MS:=aV (sIf (dJ (bu (cQ (eB cK (aC (eV 0) (aC (eC (.ty "tuple")) (aJ)))))) (dJ (tOf (aK (lv dNe) (eB cg (aC (eV 0) (aJ))) (eC (.int 2)))) (bu (cQ (aR 3 gI (aC (aK fIx (eV 0) (eC (.int 0))) (aC (eC (.int 3)) (aC (eC (.int 3)) (aJ))))))))) (bF (eC (.bool false))) (b4))
  (bF (jx (aK cZ (aK fIx (eV 0) (eC (.int 0))) (bv (cF (eV 1)) (dg 2 (au (gV 2) (au (gV 3) (eW)))) (c5) (eV 2) [2,3])) (aR 3 aO (aC (aK fIx (eV 0) (eC (.int 1))) (aC (eC (.int 10)) (aC (eC (.int 300)) (aJ)))))))
def fO:MF:=ay 2 mU
theorem qr {P:Program} {w:World} {K:PySem.W.Frag} {mg:Str→Option Value} {base:Heap} (G:Gx P w K mg base):FnE P w K mg base 2 (He.ga K "is_place") ["place","ahead"] fO:=by
  obtain ⟨fd,F⟩:=G.f_is_place
  have fx:=G.fx
  refine ⟨fd,?_⟩
  refine ak (N:=N_is_place) (st:=qp) (k:=1) F ⟨rfl,rfl,rfl,by decide +kernel,rfl,by decide +kernel,by decide +kernel⟩ rfl (fun _ _ _ _ _ _ us hl=>match us,hl with|[_,_],_=>rfl) fun cdv A outer s H E hcd hp hr W tk=>?_
  have nd:N_is_place.Nodup:=by decide +kernel
  have hu1:=ru1 hr
  have hu64:=cM hr
  have hu65:=cN hr
  exact (aI (bH (br (cC (bU (a9 (bj fW rfl fx.n_isinstance aj (aA (aB 0) (aA (fV rfl fx.n_tuple bN) aD))))) (cC (aY (ig hu64) (bj dR rfl fx.n_len cG (aA (aB 0) aD)) aF (by with_unfolding_all rfl)) (cD (bU (a9 (aN (ps:=["thing","least","most"]) (m:=gI) (sS G) (hr.mono (by decide)) fx.d_is_word tk (aA (aS hu1 (aB 0) aF) (aA (bW fx.i_PLACE_SIZE) (aA (bW fx.i_PLACE_SIZE) aD)))))))))) (aL (aU bC)) aa)
    (aL (aU (fe (fb (cS hu65) (aS hu1 (aB 0) aF) (bi (own:=[("name",2),("change",3)]) rfl nd (az (aB 1)) (blkOk_by (by kernel_rfl)) (fun _ _ _ _ _=>(oV rfl (dO (ai (i:=2) nd rfl (by first|exact .inl rfl|exact .inr rfl) (by decide)) (dO (ai (i:=3) nd rfl (by first|exact .inl rfl|exact .inr rfl) (by decide)) lL)))) (fun _ _ _ _ _=>bz) (fun _ _ _ _ _=>(aB 2))) (by with_unfolding_all rfl)) (io (aN (ps:=["thing","low","high"]) (m:=aO) (a0 G) (hr.mono (by decide)) fx.d_is_number tk (aA (aS hu1 (aB 0) aF) (aA (bW fx.i_LEAST_CHANGE) (aA (bW fx.i_MOST_CHANGE) aD)))))))))
abbrev qs:Stmt:=(top 25)
abbrev N_need_net:List Str:=["net","places","legs","number","place","names","leg","name","change"]
def mV:MS:=aV (sIf (dJ (bu (cQ (eB cK (aC (eV 0) (aC (eC (.ty "tuple")) (aJ)))))) (tOf (aK (lv dNe) (eB cg (aC (eV 0) (aJ))) (eC (.int 2))))) (eh "BadNet" ["part","number"] (aC (eNeg (eC (.int 1))) (aC (eC (.int 0)) (aJ)))) (b4))
  (aV (fg (eV 0) (dg 2 (au (gV 1) (au (gV 2) (eW)))))
  (aV (sIf (dJ (bu (cQ (eB cK (aC (eV 1) (aC (eC (.ty "tuple")) (aJ)))))) (tOf (aK (lv dEq) (eV 1) (cx (aJ))))) (eh "BadNet" ["part","number"] (aC (eC (.int 0)) (aC (eC (.int 0)) (aJ)))) (b4))
  (aV (fv (lm (aC (eV 1) (aJ))) (dg 2 (au (gV 3) (au (gV 4) (eW)))) (sIf (dJ (tOf (aK (lv dEq) (eV 3) (eC (.int 12)))) (bu (cQ (aR 2 fO (aC (eV 4) (aC (oO (eV 1) (pNo) (jJ (eV 3))) (aJ))))))) (eh "BadNet" ["part","number"] (aC (eC (.int 0)) (aC (eV 3) (aJ)))) (b4)))
  (aV (sIf (bu (cQ (eB cK (aC (eV 2) (aC (eC (.ty "tuple")) (aJ)))))) (eh "BadNet" ["part","number"] (aC (eC (.int 1)) (aC (eC (.int 0)) (aJ)))) (b4))
  (aV (bw 5 (bv (cF (eV 1)) (dg 2 (au (gV 7) (au (gV 8) (eW)))) (c5) (eV 7) [7,8]))
  (fv (lm (aC (eV 2) (aJ))) (dg 2 (au (gV 3) (au (gV 6) (eW)))) (sIf (dJ (tOf (aK (lv dEq) (eV 3) (eC (.int 60)))) (bu (cQ (aR 3 hY (aC (eV 6) (aC (oO (eV 2) (pNo) (jJ (eV 3))) (aC (eV 5) (aJ)))))))) (eh "BadNet" ["part","number"] (aC (eC (.int 1)) (aC (eV 3) (aJ)))) (b4))))))))
def fP:MF:=ay 8 mV
theorem qt {P:Program} {w:World} {K:PySem.W.Frag} {mg:Str→Option Value} {base:Heap} (G:Gx P w K mg base):FnE P w K mg base 4 (He.ga K "need_net") ["net"] fP:=by
  obtain ⟨fd,F⟩:=G.f_need_net
  have fx:=G.fx
  refine ⟨fd,?_⟩
  refine ak (N:=N_need_net) (st:=qs) (k:=3) F ⟨rfl,rfl,rfl,by decide +kernel,rfl,by decide +kernel,by decide +kernel⟩ rfl (fun _ _ _ _ _ _ us hl=>match us,hl with|[_],_=>rfl) fun cdv A outer s H E hcd hp hr W tk=>?_
  have nd:N_need_net.Nodup:=by decide +kernel
  have hu1:=ru1 hr
  have hu64:=cM hr
  have hu65:=cN hr
  exact (aI (bH (br (cC (bU (a9 (bj fW rfl fx.n_isinstance aj (aA (aB 0) (aA (fV rfl fx.n_tuple bN) aD))))) (cD (aY (ig hu64) (bj dR rfl fx.n_len cG (aA (aB 0) aD)) aF (by with_unfolding_all rfl))))) (aL (f8 (ns:=["part","number"]) rfl tk fx.e_BadNet (b9 G) (hr.mono (by decide)) fx.d_BadNet rfl (aA (rR aF) (aA aF aD)))) aa)
    (aI (cR (aB 0) (gQ rfl (aq (aZ (i:=1) nd rfl (by first|exact .inl rfl|exact .inr rfl)) (aq (aZ (i:=2) nd rfl (by first|exact .inl rfl|exact .inr rfl)) eg))))
    (aI (bH (br (cC (bU (a9 (bj fW rfl fx.n_isinstance aj (aA (aB 1) (aA (fV rfl fx.n_tuple bN) aD))))) (cD (aY (lG hu64) (aB 1) (bE aD) (by with_unfolding_all rfl))))) (aL (f8 (ns:=["part","number"]) rfl tk fx.e_BadNet (b9 G) (hr.mono (by decide)) fx.d_BadNet rfl (aA aF (aA aF aD)))) aa)
    (aI (cc hp rfl (tO rfl fx.n_enumerate (aA (aB 1) aD)) (gQ rfl (aq (aZ (i:=3) nd rfl (by first|exact .inl rfl|exact .inr rfl)) (aq (aZ (i:=4) nd rfl (by first|exact .inl rfl|exact .inr rfl)) eg))) (aL (bH (br (cC (aY (lG hu64) (aB 3) (bW fx.i_MOST_PLACES) (by with_unfolding_all rfl)) (cD (bU (a9 (aN (ps:=["place","ahead"]) (m:=fO) (qr G) (hr.mono (by decide)) fx.d_is_place tk (aA (aB 4) (aA (jw (aB 1) nF (iJ (aB 3))) aD)))))))) (aL (f8 (ns:=["part","number"]) rfl tk fx.e_BadNet (b9 G) (hr.mono (by decide)) fx.d_BadNet rfl (aA aF (aA (aB 3) aD)))) aa)))
    (aI (bH (bU (a9 (bj fW rfl fx.n_isinstance aj (aA (aB 2) (aA (fV rfl fx.n_tuple bN) aD))))) (aL (f8 (ns:=["part","number"]) rfl tk fx.e_BadNet (b9 G) (hr.mono (by decide)) fx.d_BadNet rfl (aA aF (aA aF aD)))) aa)
    (aI (ir (own:=[("name",7),("change",8)]) (i:=5) rfl nd rfl rfl rfl (az (aB 1)) (blkOk_by (by kernel_rfl)) (fun _ _ _ _ _=>(oV rfl (dO (ai (i:=7) nd rfl (by first|exact .inl rfl|exact .inr rfl) (by decide)) (dO (ai (i:=8) nd rfl (by first|exact .inl rfl|exact .inr rfl) (by decide)) lL)))) (fun _ _ _ _ _=>bz) (fun _ _ _ _ _=>(aB 7)))
    (aL (cc hp rfl (tO rfl fx.n_enumerate (aA (aB 2) aD)) (gQ rfl (aq (aZ (i:=3) nd rfl (by first|exact .inl rfl|exact .inr rfl)) (aq (aZ (i:=6) nd rfl (by first|exact .inl rfl|exact .inr rfl)) eg))) (aL (bH (br (cC (aY (lG hu64) (aB 3) (bW fx.i_MOST_LEGS) (by with_unfolding_all rfl)) (cD (bU (a9 (aN (ps:=["leg","ahead","names"]) (m:=hY) (ug G) (hr.mono (by decide)) fx.d_is_leg tk (aA (aB 6) (aA (jw (aB 2) nF (iJ (aB 3))) (aA (aB 5) aD))))))))) (aL (f8 (ns:=["part","number"]) rfl tk fx.e_BadNet (b9 G) (hr.mono (by decide)) fx.d_BadNet rfl (aA aF (aA (aB 3) aD)))) aa))))))))))
abbrev m5:Stmt:=(inClass (top 26) 0)
abbrev N_Net_init__:List Str:=["self","net","places","legs","leg"]
def jl:MS:=aV (dL (aR 1 fP (aC (eV 1) (aJ))))
  (aV (fg (eV 1) (dg 2 (au (gV 2) (au (gV 3) (eW)))))
  (aV (jP "Net" "changes" (eV 0) (oZ (aC (eV 2) (aJ))))
  (jP "Net" "legs" (eV 0) (l5 (cF (eV 3)) (gV 4) (c5) (aK fIx (eV 4) (eC (.int 0))) (eV 4) [4]))))
def bY:MF:=ay 3 jl
theorem fj {P:Program} {w:World} {K:PySem.W.Frag} {mg:Str→Option Value} {base:Heap} (G:Gx P w K mg base):FnE P w K mg base 5 (He.ma K (He.ga K "Net") "__init__") ["self","net"] bY:=by
  obtain ⟨fd,F⟩:=G.f_Net_init__
  have fx:=G.fx
  refine ⟨fd,?_⟩
  refine ak (N:=N_Net_init__) (st:=m5) (k:=4) F ⟨rfl,rfl,rfl,by decide +kernel,rfl,by decide +kernel,by decide +kernel⟩ rfl (fun _ _ _ _ _ _ us hl=>match us,hl with|[_,_],_=>rfl) fun cdv A outer s H E hcd hp hr W tk=>?_
  have nd:N_Net_init__.Nodup:=by decide +kernel
  have hu1:=ru1 hr
  have hu64:=cM hr
  have hu65:=cN hr
  exact (aI (bx (aN (ps:=["net"]) (m:=fP) (qt G) (hr.mono (by decide)) fx.d_need_net tk (aA (aB 1) aD)))
    (aI (cR (aB 1) (gQ rfl (aq (aZ (i:=2) nd rfl (by first|exact .inl rfl|exact .inr rfl)) (aq (aZ (i:=3) nd rfl (by first|exact .inl rfl|exact .inr rfl)) eg))))
    (aI (j2 (vU rfl rfl fx.n_dict xY (aA (aB 2) aD)) (aB 0) fx.d_Net fx.c_Net fx.a_Net_changes)
    (aL (j2 (vV (own:=[("leg",4)]) rfl nd (az (aB 3)) (blkOk_by (by kernel_rfl)) (fun _ _ _ _ _=>(ai (i:=4) nd rfl (by first|exact .inl rfl|exact .inr rfl) (by decide))) (fun _ _ _ _ _=>bz) (fun _ _ _ _ _=>(aS hu1 (aB 4) aF)) (fun _ _ _ _ _=>(aB 4))) (aB 0) fx.d_Net fx.c_Net fx.a_Net_legs)))))
abbrev uh:Stmt:=(top 35)
abbrev N_fewest:List Str:=["net","turn","first","last","held","matcher","chains"]
def qu:MS:=aV (bw 4 (ke "Net" 2 bY (aC (eV 0) (aJ))))
  (aV (dL (aR 1 cj (aC (eV 1) (aJ))))
  (aV (dL (aR 2 bp (aC (eV 2) (aC (eV 3) (aJ)))))
  (aV (bw 5 (ke "Matcher" 4 b7 (aC (eV 4) (aC (eV 1) (aC (cu "Net" "all_rides" 3 a7 (eV 4) (aC (eV 2) (aC (eV 3) (aJ)))) (aJ))))))
  (aV (bw 6 (cu "Matcher" "chains" 1 b5 (eV 5) aJ))
  (bF (cx (aC (eB cg (aC (eV 6) (aJ))) (aC (eV 6) (aC (cu "Matcher" "cover" 1 cO (eV 5) aJ) (aJ))))))))))
def dX:MF:=ay 3 qu
theorem kK {P:Program} {w:World} {K:PySem.W.Frag} {mg:Str→Option Value} {base:Heap} (G:Gx P w K mg base):FnE P w K mg base 124 (He.ga K "fewest") ["net","turn","first","last"] dX:=by
  obtain ⟨fd,F⟩:=G.f_fewest
  have fx:=G.fx
  refine ⟨fd,?_⟩
  refine ak (N:=N_fewest) (st:=uh) (k:=123) F ⟨rfl,rfl,rfl,by decide +kernel,rfl,by decide +kernel,by decide +kernel⟩ rfl (fun _ _ _ _ _ _ us hl=>match us,hl with|[_,_,_,_],_=>rfl) fun cdv A outer s H E hcd hp hr W tk=>?_
  have nd:N_fewest.Nodup:=by decide +kernel
  have hu1:=ru1 hr
  have hu64:=cM hr
  have hu65:=cN hr
  exact (aI (bA (i:=4) nd rfl (by first|exact .inl rfl|exact .inr rfl) (lO (ps:=["self","net"]) (mi:=bY) fx.d_Net fx.k_Net (fj G) (hr.mono (by decide)) tk (aA (aB 0) aD)))
    (aI (bx (aN (ps:=["turn"]) (m:=cj) (jk G) (hr.mono (by decide)) fx.d_need_turn tk (aA (aB 1) aD)))
    (aI (bx (aN (ps:=["first","last"]) (m:=bp) (gU G) (hr.mono (by decide)) fx.d_need_days tk (aA (aB 2) (aA (aB 3) aD))))
    (aI (bA (i:=5) nd rfl (by first|exact .inl rfl|exact .inr rfl) (lO (ps:=["self","held","turn","rides"]) (mi:=b7) fx.d_Matcher fx.k_Matcher (jj G) (hr.mono (by decide)) tk (aA (aB 4) (aA (aB 1) (aA (ck (pl:=plainOf _ _) (ps:=["self","first","last"]) (m:=a7) (aB 4) fx.d_Net fx.c_Net fx.m_Net_all_rides (dt G) (hr.mono (by decide)) tk (aA (aB 2) (aA (aB 3) aD))) aD)))))
    (aI (bA (i:=6) nd rfl (by first|exact .inl rfl|exact .inr rfl) (qB (pl:=plainOf _ _) (ps:=["self"]) (m:=b5) (aB 5) fx.d_Matcher fx.c_Matcher fx.m_Matcher_chains (jf G) (hr.mono (by decide)) tk))
    (aL (aU (bE (aA (bj dR rfl fx.n_len cG (aA (aB 6) aD)) (aA (aB 6) (aA (qB (pl:=plainOf _ _) (ps:=["self"]) (m:=cO) (aB 5) fx.d_Matcher fx.c_Matcher fx.m_Matcher_cover (kJ G) (hr.mono (by decide)) tk) aD)))))))))))
abbrev ui:Stmt:=(top 36)
abbrev N_is_end:List Str:=["end","rides","part"]
def dY:MS:=aV (sIf (dJ (bu (cQ (eB cK (aC (eV 0) (aC (eC (.ty "tuple")) (aJ)))))) (dJ (tOf (aK (lv dNe) (eB cg (aC (eV 0) (aJ))) (eC (.int 2)))) (dJ (bu (cQ (aR 3 aO (aC (aK fIx (eV 0) (eC (.int 0))) (aC (eC (.int 0)) (aC (eC (.int 1)) (aJ))))))) (bu (cQ (eB cK (aC (aK fIx (eV 0) (eC (.int 1))) (aC (eC (.ty "tuple")) (aJ))))))))) (bF (eC (.bool false))) (b4))
  (bF (jx (aK fIn (aK fIx (eV 0) (eC (.int 1))) (eV 1)) (eB j3 (aC (bv (cF (aK fIx (eV 0) (eC (.int 1)))) (gV 2) (c5) (aR 3 aO (aC (eV 2) (aC (eC (.int 0)) (aC (eV 2) (aJ))))) [2]) (aJ)))))
def h7:MF:=ay 1 dY
theorem uj {P:Program} {w:World} {K:PySem.W.Frag} {mg:Str→Option Value} {base:Heap} (G:Gx P w K mg base):FnE P w K mg base 2 (He.ga K "is_end") ["end","rides"] h7:=by
  obtain ⟨fd,F⟩:=G.f_is_end
  have fx:=G.fx
  refine ⟨fd,?_⟩
  refine ak (N:=N_is_end) (st:=ui) (k:=1) F ⟨rfl,rfl,rfl,by decide +kernel,rfl,by decide +kernel,by decide +kernel⟩ rfl (fun _ _ _ _ _ _ us hl=>match us,hl with|[_,_],_=>rfl) fun cdv A outer s H E hcd hp hr W tk=>?_
  have nd:N_is_end.Nodup:=by decide +kernel
  have hu1:=ru1 hr
  have hu64:=cM hr
  have hu65:=cN hr
  exact (aI (bH (br (cC (bU (a9 (bj fW rfl fx.n_isinstance aj (aA (aB 0) (aA (fV rfl fx.n_tuple bN) aD))))) (cC (aY (ig hu64) (bj dR rfl fx.n_len cG (aA (aB 0) aD)) aF (by with_unfolding_all rfl)) (cC (bU (a9 (aN (ps:=["thing","low","high"]) (m:=aO) (a0 G) (hr.mono (by decide)) fx.d_is_number tk (aA (aS hu1 (aB 0) aF) (aA aF (aA aF aD)))))) (cD (bU (a9 (bj fW rfl fx.n_isinstance aj (aA (aS hu1 (aB 0) aF) (aA (fV rfl fx.n_tuple bN) aD)))))))))) (aL (aU bC)) aa)
    (aL (aU (fe (fb (pY hu65) (aS hu1 (aB 0) aF) (aB 1) (by with_unfolding_all rfl)) (io (bj (p0 rfl) rfl fx.n_all l9 (aA (bi (own:=[("part",2)]) rfl nd (az (aS hu1 (aB 0) aF)) (blkOk_by (by kernel_rfl)) (fun _ _ _ _ _=>(ai (i:=2) nd rfl (by first|exact .inl rfl|exact .inr rfl) (by decide))) (fun _ _ _ _ _=>bz) (fun _ _ _ _ _=>(aN (ps:=["thing","low","high"]) (m:=aO) (a0 G) (hr.mono (by decide)) fx.d_is_number takes0 (aA (aB 2) (aA aF (aA (aB 2) aD)))))) aD)))))))
abbrev lH:Stmt:=(top 37)
abbrev N_shown_planes:List Str:=["net","turn","first","last","cover","held","rides","one","other","end"]
def h8:MS:=aV (bw 5 (ke "Net" 2 bY (aC (eV 0) (aJ))))
  (aV (dL (aR 1 cj (aC (eV 1) (aJ))))
  (aV (dL (aR 2 bp (aC (eV 2) (aC (eV 3) (aJ)))))
  (aV (bw 6 (cu "Net" "all_rides" 3 a7 (eV 5) (aC (eV 2) (aC (eV 3) (aJ)))))
  (aV (sIf (dJ (bu (cQ (eB cK (aC (eV 4) (aC (eC (.ty "tuple")) (aJ)))))) (bu (cQ (eB j3 (aC (bv (cF (eV 4)) (gV 9) (c5) (aR 2 h7 (aC (eV 9) (aC (eV 6) (aJ)))) [9]) (aJ)))))) (bF (eC .none)) (b4))
  (aV (sIf (tOf (aK (lv dLt) (jc true (eV 4)) (eB cg (aC (eV 4) (aJ))))) (bF (eC .none)) (b4))
  (aV (fv (cF (eV 6)) (gV 7) (fv (cF (eV 6)) (gV 8) (sIf (nH (cQ (aR 4 bX (aC (eV 5) (aC (eV 1) (aC (eV 7) (aC (eV 8) (aJ))))))) (nH (tOf (aK cZ (cx (aC (eC (.int 0)) (aC (eV 7) (aJ)))) (eV 4))) (tOf (aK cZ (cx (aC (eC (.int 1)) (aC (eV 8) (aJ)))) (eV 4))))) (bF (eC .none)) (b4))))
  (bF (aK (lv pS) (eB cg (aC (eV 6) (aJ))) (eB cg (aC (eV 4) (aJ)))))))))))
def bc:MF:=ay 5 h8
theorem gr {P:Program} {w:World} {K:PySem.W.Frag} {mg:Str→Option Value} {base:Heap} (G:Gx P w K mg base):FnE P w K mg base 7 (He.ga K "shown_planes") ["net","turn","first","last","cover"] bc:=by
  obtain ⟨fd,F⟩:=G.f_shown_planes
  have fx:=G.fx
  refine ⟨fd,?_⟩
  refine ak (N:=N_shown_planes) (st:=lH) (k:=6) F ⟨rfl,rfl,rfl,by decide +kernel,rfl,by decide +kernel,by decide +kernel⟩ rfl (fun _ _ _ _ _ _ us hl=>match us,hl with|[_,_,_,_,_],_=>rfl) fun cdv A outer s H E hcd hp hr W tk=>?_
  have nd:N_shown_planes.Nodup:=by decide +kernel
  have hu1:=ru1 hr
  have hu64:=cM hr
  have hu65:=cN hr
  exact (aI (bA (i:=5) nd rfl (by first|exact .inl rfl|exact .inr rfl) (lO (ps:=["self","net"]) (mi:=bY) fx.d_Net fx.k_Net (fj G) (hr.mono (by decide)) tk (aA (aB 0) aD)))
    (aI (bx (aN (ps:=["turn"]) (m:=cj) (jk G) (hr.mono (by decide)) fx.d_need_turn tk (aA (aB 1) aD)))
    (aI (bx (aN (ps:=["first","last"]) (m:=bp) (gU G) (hr.mono (by decide)) fx.d_need_days tk (aA (aB 2) (aA (aB 3) aD))))
    (aI (bA (i:=6) nd rfl (by first|exact .inl rfl|exact .inr rfl) (ck (pl:=plainOf _ _) (ps:=["self","first","last"]) (m:=a7) (aB 5) fx.d_Net fx.c_Net fx.m_Net_all_rides (dt G) (hr.mono (by decide)) tk (aA (aB 2) (aA (aB 3) aD))))
    (aI (bH (br (cC (bU (a9 (bj fW rfl fx.n_isinstance aj (aA (aB 4) (aA (fV rfl fx.n_tuple bN) aD))))) (cD (bU (a9 (bj (p0 rfl) rfl fx.n_all l9 (aA (bi (own:=[("end",9)]) rfl nd (az (aB 4)) (blkOk_by (by kernel_rfl)) (fun _ _ _ _ _=>(ai (i:=9) nd rfl (by first|exact .inl rfl|exact .inr rfl) (by decide))) (fun _ _ _ _ _=>bz) (fun _ _ _ _ _=>(aN (ps:=["end","rides"]) (m:=h7) (uj G) (hr.mono (by decide)) fx.d_is_end takes0 (aA (aB 9) (aA (aB 6) aD))))) aD))))))) (aL (aU lJ)) aa)
    (aI (bH (aY o_lt (sO true hu65 rfl rfl fx.n_len rfl fx.n_set (aB 4)) (bj dR rfl fx.n_len cG (aA (aB 4) aD)) (by with_unfolding_all rfl)) (aL (aU lJ)) aa)
    (aI (cc hp rfl (az (aB 6)) (aZ (i:=7) nd rfl (by first|exact .inl rfl|exact .inr rfl)) (aL (cc hp rfl (az (aB 6)) (aZ (i:=8) nd rfl (by first|exact .inl rfl|exact .inr rfl)) (aL (bH (br (rQ (a9 (aN (ps:=["held","turn","one","other"]) (m:=bX) (iY G) (hr.mono (by decide)) fx.d_can_follow tk (aA (aB 5) (aA (aB 1) (aA (aB 7) (aA (aB 8) aD)))))) (rQ (aY (cS hu65) (bE (aA aF (aA (aB 7) aD))) (aB 4) (by with_unfolding_all rfl)) (tH (aY (cS hu65) (bE (aA aF (aA (aB 8) aD))) (aB 4) (by with_unfolding_all rfl)))))) (aL (aU lJ)) aa)))))
    (aL (aU (aP lg (bj dR rfl fx.n_len cG (aA (aB 6) aD)) (bj dR rfl fx.n_len cG (aA (aB 4) aD))))))))))))
abbrev oz:Stmt:=(top 43)
abbrev N_law_leave:List Str:=["_law_net_here","_law_ride","_law_leg_here"]
def k9:MS:=bF (aK (lv0 bS) (aK (lv dI) (eC (.int 1440)) (aK fIx (eV 1) (eC (.int 0)))) (aK fIx (aK fIx (bv (cF (aK fIx (eV 0) (eC (.int 1)))) (gV 2) (tOf (aK (lv dEq) (aK fIx (eV 2) (eC (.int 0))) (aK fIx (eV 1) (eC (.int 1))))) (eV 2) [2]) (eC (.int 0))) (eC (.int 3))))
def bq:MF:=ay 1 k9
theorem gW {P:Program} {w:World} {K:PySem.W.Frag} {mg:Str→Option Value} {base:Heap} (G:Gx P w K mg base):FnE P w K mg base 1 (He.ga K "_law_leave") ["_law_net_here","_law_ride"] bq:=by
  obtain ⟨fd,F⟩:=G.f_law_leave
  have fx:=G.fx
  refine ⟨fd,?_⟩
  refine ak (N:=N_law_leave) (st:=oz) (k:=0) F ⟨rfl,rfl,rfl,by decide +kernel,rfl,by decide +kernel,by decide +kernel⟩ rfl (fun _ _ _ _ _ _ us hl=>match us,hl with|[_,_],_=>rfl) fun cdv A outer s H E hcd hp hr W tk=>?_
  have nd:N_law_leave.Nodup:=by decide +kernel
  have hu1:=ru1 hr
  have hu64:=cM hr
  have hu65:=cN hr
  exact (aL (aU (aP ax (aP cP aF (aS hu1 (aB 1) aF)) (aS hu1 (aS hu1 (bi (own:=[("_law_leg_here",2)]) rfl nd (az (aS hu1 (aB 0) aF)) (blkOk_by (by kernel_rfl)) (fun _ _ _ _ _=>(ai (i:=2) nd rfl (by first|exact .inl rfl|exact .inr rfl) (by decide))) (fun _ _ _ _ _=>(dP (aY (lG hu64) (aS hu1 (aB 2) aF) (aS hu1 (aB 1) aF) (by with_unfolding_all rfl)))) (fun _ _ _ _ _=>(aB 2))) aF) aF))))
abbrev sT:Stmt:=(top 44)
abbrev N_law_leg:List Str:=["_law_net_here","_law_ride","_law_leg_here"]
def oB:MS:=bF (aK fIx (bv (cF (aK fIx (eV 0) (eC (.int 1)))) (gV 2) (tOf (aK (lv dEq) (aK fIx (eV 2) (eC (.int 0))) (aK fIx (eV 1) (eC (.int 1))))) (eV 2) [2]) (eC (.int 0)))
def cr:MF:=ay 1 oB
theorem i6 {P:Program} {w:World} {K:PySem.W.Frag} {mg:Str→Option Value} {base:Heap} (G:Gx P w K mg base):FnE P w K mg base 1 (He.ga K "_law_leg") ["_law_net_here","_law_ride"] cr:=by
  obtain ⟨fd,F⟩:=G.f_law_leg
  have fx:=G.fx
  refine ⟨fd,?_⟩
  refine ak (N:=N_law_leg) (st:=sT) (k:=0) F ⟨rfl,rfl,rfl,by decide +kernel,rfl,by decide +kernel,by decide +kernel⟩ rfl (fun _ _ _ _ _ _ us hl=>match us,hl with|[_,_],_=>rfl) fun cdv A outer s H E hcd hp hr W tk=>?_
  have nd:N_law_leg.Nodup:=by decide +kernel
  have hu1:=ru1 hr
  have hu64:=cM hr
  have hu65:=cN hr
  exact (aL (aU (aS hu1 (bi (own:=[("_law_leg_here",2)]) rfl nd (az (aS hu1 (aB 0) aF)) (blkOk_by (by kernel_rfl)) (fun _ _ _ _ _=>(ai (i:=2) nd rfl (by first|exact .inl rfl|exact .inr rfl) (by decide))) (fun _ _ _ _ _=>(dP (aY (lG hu64) (aS hu1 (aB 2) aF) (aS hu1 (aB 1) aF) (by with_unfolding_all rfl)))) (fun _ _ _ _ _=>(aB 2))) aF)))
abbrev m6:Stmt:=(top 46)
abbrev N_law_arrive:List Str:=["_law_net_here","_law_ride"]
def jn:MS:=bF (aK (lv0 bS) (aR 2 bq (aC (eV 0) (aC (eV 1) (aJ)))) (aK fIx (aR 2 cr (aC (eV 0) (aC (eV 1) (aJ)))) (eC (.int 4))))
def dZ:MF:=ay 0 jn
theorem m7 {P:Program} {w:World} {K:PySem.W.Frag} {mg:Str→Option Value} {base:Heap} (G:Gx P w K mg base):FnE P w K mg base 2 (He.ga K "_law_arrive") ["_law_net_here","_law_ride"] dZ:=by
  obtain ⟨fd,F⟩:=G.f_law_arrive
  have fx:=G.fx
  refine ⟨fd,?_⟩
  refine ak (N:=N_law_arrive) (st:=m6) (k:=1) F ⟨rfl,rfl,rfl,by decide +kernel,rfl,by decide +kernel,by decide +kernel⟩ rfl (fun _ _ _ _ _ _ us hl=>match us,hl with|[_,_],_=>rfl) fun cdv A outer s H E hcd hp hr W tk=>?_
  have nd:N_law_arrive.Nodup:=by decide +kernel
  have hu1:=ru1 hr
  have hu64:=cM hr
  have hu65:=cN hr
  exact (aL (aU (aP ax (aN (ps:=["_law_net_here","_law_ride"]) (m:=bq) (gW G) (hr.mono (by decide)) fx.d__law_leave tk (aA (aB 0) (aA (aB 1) aD))) (aS hu1 (aN (ps:=["_law_net_here","_law_ride"]) (m:=cr) (i6 G) (hr.mono (by decide)) fx.d__law_leg tk (aA (aB 0) (aA (aB 1) aD))) aF))))
abbrev sU:Stmt:=(top 47)
abbrev N_law_may:List Str:=["_law_net_here","_law_turn","_law_one","_law_other","_law_first","_law_second"]
def oC:MS:=aV (rU 4 5 (aC (aR 2 cr (aC (eV 0) (aC (eV 2) (aJ)))) (aC (aR 2 cr (aC (eV 0) (aC (eV 3) (aJ)))) (aJ))))
  (bF (jx (aK (lv dEq) (aK fIx (eV 4) (eC (.int 2))) (aK fIx (eV 5) (eC (.int 1)))) (aK (lv dLe) (aK (lv0 bS) (aR 2 dZ (aC (eV 0) (aC (eV 2) (aJ)))) (eV 1)) (aR 2 bq (aC (eV 0) (aC (eV 3) (aJ)))))))
def dw:MF:=ay 2 oC
theorem mW {P:Program} {w:World} {K:PySem.W.Frag} {mg:Str→Option Value} {base:Heap} (G:Gx P w K mg base):FnE P w K mg base 3 (He.ga K "_law_may") ["_law_net_here","_law_turn","_law_one","_law_other"] dw:=by
  obtain ⟨fd,F⟩:=G.f_law_may
  have fx:=G.fx
  refine ⟨fd,?_⟩
  refine ak (N:=N_law_may) (st:=sU) (k:=2) F ⟨rfl,rfl,rfl,by decide +kernel,rfl,by decide +kernel,by decide +kernel⟩ rfl (fun _ _ _ _ _ _ us hl=>match us,hl with|[_,_,_,_],_=>rfl) fun cdv A outer s H E hcd hp hr W tk=>?_
  have nd:N_law_may.Nodup:=by decide +kernel
  have hu1:=ru1 hr
  have hu64:=cM hr
  have hu65:=cN hr
  exact (aI (oS (i:=4) (j:=5) rfl nd rfl rfl (by decide) rfl rfl (aA (aN (ps:=["_law_net_here","_law_ride"]) (m:=cr) (i6 G) (hr.mono (by decide)) fx.d__law_leg tk (aA (aB 0) (aA (aB 2) aD))) (aA (aN (ps:=["_law_net_here","_law_ride"]) (m:=cr) (i6 G) (hr.mono (by decide)) fx.d__law_leg tk (aA (aB 0) (aA (aB 3) aD))) aD)))
    (aL (aU (fe (fb (lG hu64) (aS hu1 (aB 4) aF) (aS hu1 (aB 5) aF) (by with_unfolding_all rfl)) (io (fb rN (aP ax (aN (ps:=["_law_net_here","_law_ride"]) (m:=dZ) (m7 G) (hr.mono (by decide)) fx.d__law_arrive tk (aA (aB 0) (aA (aB 2) aD))) (aB 1)) (aN (ps:=["_law_net_here","_law_ride"]) (m:=bq) (gW G) (hr.mono (by decide)) fx.d__law_leave tk (aA (aB 0) (aA (aB 3) aD))) (by with_unfolding_all rfl)))))))
abbrev h9:Stmt:=(top 48)
abbrev N_law_matched:List Str:=["_law_nexts","_law_ride","_law_met","_law_behind","_law_other"]
def bZ:Nat→MF
  | 0=>ay 1 iq
  | n+1=>ay 1 (aV (fv (cF (aK fIx (eV 0) (eV 1))) (gV 4) (sIf (tOf (aK cZ (eV 4) (eV 2))) (aV (dL (eM bn bD (eV 2) (aC (eV 4) (aJ))))
  (sIf (dJ (tOf (aK cZ (eV 4) (eV 3))) (cQ (aR 4 (bZ n) (aC (eV 0) (aC (aK fIx (eV 3) (eV 4)) (aC (eV 2) (aC (eV 3) (aJ)))))))) (aV (fg (eV 1) (fY (eV 3) (eV 4)))
  (bF (eC (.bool true)))) (b4))) (b4)))
  (bF (eC (.bool false))))
theorem iA {P:Program} {w:World} {K:PySem.W.Frag} {mg:Str→Option Value} {base:Heap} (G:Gx P w K mg base):∀n:Nat,FnE P w K mg base (n+1) (He.ga K "_law_matched") ["_law_nexts","_law_ride","_law_met","_law_behind"] (bZ n)
  | 0=>by
    obtain ⟨fd,F⟩:=G.f_law_matched
    have h:FnE P w K mg base 1 (He.ga K "_law_matched") ["_law_nexts","_law_ride","_law_met","_law_behind"] (ay 1 iq):=by
      refine ⟨fd,?_⟩
      refine ak (N:=N_law_matched) (st:=h9) (k:=0) F ⟨rfl,rfl,rfl,by decide +kernel,rfl,by decide +kernel,by decide +kernel⟩ rfl (fun _ _ _ _ _ _ us hl=>match us,hl with|[_,_,_,_],_=>rfl) fun cdv A outer s H E hcd hp hr W tk=>?_
      exact nU
    rw[Nat.zero_add]
    exact h
  | n+1=>by
    have ih:=iA G n
    obtain ⟨fd,F⟩:=G.f_law_matched
    have fx:=G.fx
    have h:FnE P w K mg base (n+1+1) (He.ga K "_law_matched") ["_law_nexts","_law_ride","_law_met","_law_behind"] (bZ (n+1)):=by
      refine ⟨fd,?_⟩
      refine ak (N:=N_law_matched) (st:=h9) (k:=n+1) F ⟨rfl,rfl,rfl,by decide +kernel,rfl,by decide +kernel,by decide +kernel⟩ rfl (fun _ _ _ _ _ _ us hl=>match us,hl with|[_,_,_,_],_=>rfl) fun cdv A outer s H E hcd hp hr W tk=>?_
      have nd:N_law_matched.Nodup:=by decide +kernel
      have hu1:=ru1 hr
      have hu64:=cM hr
      have hu65:=cN hr
      exact (aI (cc hp rfl (az (aS hu1 (aB 0) (aB 1))) (aZ (i:=4) nd rfl (by first|exact .inl rfl|exact .inr rfl)) (aL (bH (aY (cS hu65) (aB 4) (aB 2) (by with_unfolding_all rfl)) (aI (bx (oY fi PySem.F.plainAttrs_list PySem.F.slot_list_append PySem.F.type_list_append dS (aB 2) (aA (aB 4) aD)))
    (aL (bH (br (cC (aY (cS hu65) (aB 4) (aB 3) (by with_unfolding_all rfl)) (cD (a9 (aN (ps:=["_law_nexts","_law_ride","_law_met","_law_behind"]) (m:=(bZ n)) ih hr fx.d__law_matched tk (aA (aB 0) (aA (aS hu1 (aB 3) (aB 4)) (aA (aB 2) (aA (aB 3) aD))))))))) (aI (cR (aB 1) (fE hu1 (aB 3) (aB 4)))
    (aL (aU bC))) aa))) aa)))
    (aL (aU bC)))
    rw[show n+1+1=n+1+1 by omega]
    exact h
abbrev o0:Stmt:=(top 49)
abbrev N_law_least:List Str:=["_law_net_here","_law_turn","_law_rides_here","_law_nexts","_law_behind","_law_one","_law_other","_law_ride"]
def lA:MS:=aV (fg (cx (aC (oQ true) (aC (oQ true) (aJ)))) (dg 2 (au (gV 3) (au (gV 4) (eW)))))
  (aV (fv (cF (eV 2)) (gV 5) (fg (bv (cF (eV 2)) (gV 6) (cQ (aR 4 dw (aC (eV 0) (aC (eV 1) (aC (eV 5) (aC (eV 6) (aJ))))))) (eV 6) [6]) (fY (eV 3) (eV 5))))
  (bF (aK (lv pS) (eB cg (aC (eV 2) (aJ))) (eB cg (aC (bv (cF (eV 2)) (gV 7) (cQ (aR 4 (bZ 120) (aC (eV 3) (aC (eV 7) (aC (iU (aJ)) (aC (eV 4) (aJ))))))) (eV 7) [7]) (aJ))))))
def eJ:MF:=ay 5 lA
theorem pA {P:Program} {w:World} {K:PySem.W.Frag} {mg:Str→Option Value} {base:Heap} (G:Gx P w K mg base):FnE P w K mg base 122 (He.ga K "_law_least") ["_law_net_here","_law_turn","_law_rides_here"] eJ:=by
  obtain ⟨fd,F⟩:=G.f_law_least
  have fx:=G.fx
  refine ⟨fd,?_⟩
  refine ak (N:=N_law_least) (st:=o0) (k:=121) F ⟨rfl,rfl,rfl,by decide +kernel,rfl,by decide +kernel,by decide +kernel⟩ rfl (fun _ _ _ _ _ _ us hl=>match us,hl with|[_,_,_],_=>rfl) fun cdv A outer s H E hcd hp hr W tk=>?_
  have nd:N_law_least.Nodup:=by decide +kernel
  have hu1:=ru1 hr
  have hu64:=cM hr
  have hu65:=cN hr
  exact (aI (cR (bE (aA iK (aA iK aD))) (gQ rfl (aq (aZ (i:=3) nd rfl (by first|exact .inl rfl|exact .inr rfl)) (aq (aZ (i:=4) nd rfl (by first|exact .inl rfl|exact .inr rfl)) eg))))
    (aI (cc hp rfl (az (aB 2)) (aZ (i:=5) nd rfl (by first|exact .inl rfl|exact .inr rfl)) (aL (cR (bi (own:=[("_law_other",6)]) rfl nd (az (aB 2)) (blkOk_by (by kernel_rfl)) (fun _ _ _ _ _=>(ai (i:=6) nd rfl (by first|exact .inl rfl|exact .inr rfl) (by decide))) (fun _ _ _ _ _=>(dP (a9 (aN (ps:=["_law_net_here","_law_turn","_law_one","_law_other"]) (m:=dw) (mW G) (hr.mono (by decide)) fx.d__law_may takes0 (aA (aB 0) (aA (aB 1) (aA (aB 5) (aA (aB 6) aD)))))))) (fun _ _ _ _ _=>(aB 6))) (fE hu1 (aB 3) (aB 5)))))
    (aL (aU (aP lg (bj dR rfl fx.n_len cG (aA (aB 2) aD)) (bj dR rfl fx.n_len cG (aA (bi (own:=[("_law_ride",7)]) rfl nd (az (aB 2)) (blkOk_by (by kernel_rfl)) (fun _ _ _ _ _=>(ai (i:=7) nd rfl (by first|exact .inl rfl|exact .inr rfl) (by decide))) (fun _ _ _ _ _=>(dP (a9 (aN (ps:=["_law_nexts","_law_ride","_law_met","_law_behind"]) (m:=(bZ 120)) (iA G 120) (hr.mono (by decide)) fx.d__law_matched takes0 (aA (aB 3) (aA (aB 7) (aA (gP aD) (aA (aB 4) aD)))))))) (fun _ _ _ _ _=>(aB 7))) aD)))))))
abbrev wT:Stmt:=(top 28)
abbrev N_dated:List Str:=["net","first","last","held"]
def uE:MS:=aV (bw 3 (ke "Net" 2 bY (aC (eV 0) (aJ))))
  (aV (dL (aR 2 bp (aC (eV 1) (aC (eV 2) (aJ)))))
  (bF (cu "Net" "all_rides" 3 a7 (eV 3) (aC (eV 1) (aC (eV 2) (aJ))))))
def jo:MF:=ay 1 uE
theorem wU {P:Program} {w:World} {K:PySem.W.Frag} {mg:Str→Option Value} {base:Heap} (G:Gx P w K mg base):FnE P w K mg base 7 (He.ga K "dated") ["net","first","last"] jo:=by
  obtain ⟨fd,F⟩:=G.f_dated
  have fx:=G.fx
  refine ⟨fd,?_⟩
  refine ak (N:=N_dated) (st:=wT) (k:=6) F ⟨rfl,rfl,rfl,by decide +kernel,rfl,by decide +kernel,by decide +kernel⟩ rfl (fun _ _ _ _ _ _ us hl=>match us,hl with|[_,_,_],_=>rfl) fun cdv A outer s H E hcd hp hr W tk=>?_
  have nd:N_dated.Nodup:=by decide +kernel
  have hu1:=ru1 hr
  have hu64:=cM hr
  have hu65:=cN hr
  exact (aI (bA (i:=3) nd rfl (by first|exact .inl rfl|exact .inr rfl) (lO (ps:=["self","net"]) (mi:=bY) fx.d_Net fx.k_Net (fj G) (hr.mono (by decide)) tk (aA (aB 0) aD)))
    (aI (bx (aN (ps:=["first","last"]) (m:=bp) (gU G) (hr.mono (by decide)) fx.d_need_days tk (aA (aB 1) (aA (aB 2) aD))))
    (aL (aU (ck (pl:=plainOf _ _) (ps:=["self","first","last"]) (m:=a7) (aB 3) fx.d_Net fx.c_Net fx.m_Net_all_rides (dt G) (hr.mono (by decide)) tk (aA (aB 1) (aA (aB 2) aD)))))))
abbrev pB:Stmt:=(top 45)
abbrev N_law_rides:List Str:=["_law_net_here","_law_first","_law_last","_law_found","_law_day","_law_leg_here","_law_leave_here","_law_number"]
def lB:MS:=aV (bw 3 (iU (aJ)))
  (aV (fv (ll (aC (eV 1) (aC (aK (lv0 bS) (eB nO (aC (eC (.int 60)) (aC (eV 2) (aJ)))) (eC (.int 1))) (aJ)))) (gV 4) (fv (cF (aK fIx (eV 0) (eC (.int 1)))) (gV 5) (sIf (tOf (aK fIn (aK (lv lF) (eB hJ (aC (eV 4) (aJ))) (eC (.int 7))) (aK fIx (eV 5) (eC (.int 5))))) (dL (eM bn bD (eV 3) (aC (cx (aC (aK (lv0 bS) (aK (lv dI) (eC (.int 1440)) (eV 4)) (aK fIx (eV 5) (eC (.int 3)))) (aC (aK fIx (eV 5) (eC (.int 0))) (aC (eV 4) (aJ))))) (aJ)))) (b4))))
  (bF (bv (cF (eB dW (aC (eV 3) (aJ)))) (dg 3 (au (gV 6) (au (gV 7) (au (gV 4) (eW))))) (c5) (cx (aC (eV 4) (aC (eV 7) (aJ)))) [6,7,4])))
def eK:MF:=ay 5 lB
theorem pC {P:Program} {w:World} {K:PySem.W.Frag} {mg:Str→Option Value} {base:Heap} (G:Gx P w K mg base):FnE P w K mg base 1 (He.ga K "_law_rides") ["_law_net_here","_law_first","_law_last"] eK:=by
  obtain ⟨fd,F⟩:=G.f_law_rides
  have fx:=G.fx
  refine ⟨fd,?_⟩
  refine ak (N:=N_law_rides) (st:=pB) (k:=0) F ⟨rfl,rfl,rfl,by decide +kernel,rfl,by decide +kernel,by decide +kernel⟩ rfl (fun _ _ _ _ _ _ us hl=>match us,hl with|[_,_,_],_=>rfl) fun cdv A outer s H E hcd hp hr W tk=>?_
  have nd:N_law_rides.Nodup:=by decide +kernel
  have hu1:=ru1 hr
  have hu64:=cM hr
  have hu65:=cN hr
  exact (aI (bA (i:=3) nd rfl (by first|exact .inl rfl|exact .inr rfl) (gP aD))
    (aI (cc hp rfl (tN rfl fx.n_range (aA (aB 1) (aA (aP ax (bj (vR rfl) rfl fx.n_min vX (aA aF (aA (aB 2) aD))) aF) aD))) (aZ (i:=4) nd rfl (by first|exact .inl rfl|exact .inr rfl)) (aL (cc hp rfl (az (aS hu1 (aB 0) aF)) (aZ (i:=5) nd rfl (by first|exact .inl rfl|exact .inr rfl)) (aL (bH (aY (pY hu65) (aP gx (dQ iV rfl fx.n_int fF (aA (aB 4) aD)) aF) (aS hu1 (aB 5) aF) (by with_unfolding_all rfl)) (aL (bx (oY fi PySem.F.plainAttrs_list PySem.F.slot_list_append PySem.F.type_list_append dS (aB 3) (aA (bE (aA (aP ax (aP cP aF (aB 4)) (aS hu1 (aB 5) aF)) (aA (aS hu1 (aB 5) aF) (aA (aB 4) aD)))) aD)))) aa)))))
    (aL (aU (bi (own:=[("_law_leave_here",6),("_law_number",7),("_law_day",4)]) rfl nd (az (bj (hV hu65) rfl fx.n_sorted e8 (aA (aB 3) aD))) (blkOk_by (by kernel_rfl)) (fun _ _ _ _ _=>(oV rfl (dO (ai (i:=6) nd rfl (by first|exact .inl rfl|exact .inr rfl) (by decide)) (dO (ai (i:=7) nd rfl (by first|exact .inl rfl|exact .inr rfl) (by decide)) (dO (ai (i:=4) nd rfl (by first|exact .inl rfl|exact .inr rfl) (by decide)) lL))))) (fun _ _ _ _ _=>bz) (fun _ _ _ _ _=>(bE (aA (aB 4) (aA (aB 7) aD)))))))))
abbrev pD:Stmt:=(top 40)
abbrev N_law_drawn:List Str:=["_law_state","_law_many","_law_found","_law_cell"]
def eL:MS:=aV (sIf (tOf (aK (lv dGt) (aK fIx (eV 0) (eC (.int 3))) (eC (.int 0)))) (aV (bw 2 (aK (lv lF) (eB hJ (aC (aK fIx (eV 0) (eC (.int 3))) (aJ))) (eV 1)))
  (aV (fg (aK (lv dDiv) (aK fIx (eV 0) (eC (.int 3))) (eV 1)) (fY (eV 0) (eC (.int 3))))
  (bF (eV 2)))) (b4))
  (aV (fg (aK (lv0 bS) (aK fIx (eV 0) (eC (.int 1))) (eC (.int 1))) (fY (eV 0) (eC (.int 1))))
  (aV (sIf (tOf (aK (lv dLe) (aK fIx (eV 0) (eC (.int 1))) (eB cg (aC (aK fIx (eV 0) (eC (.int 0))) (aJ))))) (aV (bw 3 (aK fIx (aK fIx (eV 0) (eC (.int 0))) (aK (lv pS) (aK fIx (eV 0) (eC (.int 1))) (eC (.int 1)))))
  (aV (fg (eIf (tOf (aK (lv dGe) (eV 3) (aK (lv dPow) (eC (.int 10)) (eC (.int 18))))) (aK (lv dDiv) (eV 3) (eV 1)) (eC (.int 0))) (fY (eV 0) (eC (.int 3))))
  (bF (aK (lv lF) (eB hJ (aC (eV 3) (aJ))) (eV 1))))) (b4))
  (aV (fg (aK (lv lF) (eB hJ (aC (aK (lv0 bS) (aK (lv dI) (aK fIx (eV 0) (eC (.int 2))) (eC (.int 48271))) (eC (.int 11))) (aJ))) (eC (.int 2147483647))) (fY (eV 0) (eC (.int 2))))
  (bF (aK (lv lF) (eB hJ (aC (aK (lv dDiv) (aK fIx (eV 0) (eC (.int 2))) (eC (.int 7))) (aJ))) (eV 1))))))
def aG:MF:=ay 2 eL
theorem aQ {P:Program} {w:World} {K:PySem.W.Frag} {mg:Str→Option Value} {base:Heap} (G:Gx P w K mg base):FnE P w K mg base 1 (He.ga K "_law_drawn") ["_law_state","_law_many"] aG:=by
  obtain ⟨fd,F⟩:=G.f_law_drawn
  have fx:=G.fx
  refine ⟨fd,?_⟩
  refine ak (N:=N_law_drawn) (st:=pD) (k:=0) F ⟨rfl,rfl,rfl,by decide +kernel,rfl,by decide +kernel,by decide +kernel⟩ rfl (fun _ _ _ _ _ _ us hl=>match us,hl with|[_,_],_=>rfl) fun cdv A outer s H E hcd hp hr W tk=>?_
  have nd:N_law_drawn.Nodup:=by decide +kernel
  have hu1:=ru1 hr
  have hu64:=cM hr
  have hu65:=cN hr
  exact (aI (bH (aY o_gt (aS hu1 (aB 0) aF) aF (by with_unfolding_all rfl)) (aI (bA (i:=2) nd rfl (by first|exact .inl rfl|exact .inr rfl) (aP gx (dQ iV rfl fx.n_int fF (aA (aS hu1 (aB 0) aF) aD)) (aB 1)))
    (aI (cR (aP tA (aS hu1 (aB 0) aF) (aB 1)) (fE hu1 (aB 0) aF))
    (aL (aU (aB 2))))) aa)
    (aI (cR (aP ax (aS hu1 (aB 0) aF) aF) (fE hu1 (aB 0) aF))
    (aI (bH (aY rN (aS hu1 (aB 0) aF) (bj dR rfl fx.n_len cG (aA (aS hu1 (aB 0) aF) aD)) (by with_unfolding_all rfl)) (aI (bA (i:=3) nd rfl (by first|exact .inl rfl|exact .inr rfl) (aS hu1 (aS hu1 (aB 0) aF) (aP lg (aS hu1 (aB 0) aF) aF)))
    (aI (cR (vD (aY o_ge (aB 3) (aP o_pow aF aF) (by with_unfolding_all rfl)) (aP tA (aB 3) (aB 1)) aF) (fE hu1 (aB 0) aF))
    (aL (aU (aP gx (dQ iV rfl fx.n_int fF (aA (aB 3) aD)) (aB 1)))))) aa)
    (aI (cR (aP gx (dQ iV rfl fx.n_int fF (aA (aP ax (aP cP (aS hu1 (aB 0) aF) aF) aF) aD)) aF) (fE hu1 (aB 0) aF))
    (aL (aU (aP gx (dQ iV rfl fx.n_int fF (aA (aP tA (aS hu1 (aB 0) aF) aF) aD)) (aB 1))))))))
abbrev mX:Stmt:=(top 41)
abbrev N_law_shuttle:List Str:=["_law_state","_law_names","_law_legs","_law_long","_law_gap","_law_days","_law_k","_law_one","_law_other","_law_name"]
def iZ:MS:=aV (rU 1 2 (aC (oO (jK (aC (eC (.str "aba")) (aC (eC (.str "bcd")) (aC (eC (.str "cad")) (aJ))))) (pNo) (jJ (aK (lv0 bS) (eC (.int 2)) (aR 2 aG (aC (eV 0) (aC (eC (.int 2)) (aJ))))))) (aC (iU (aJ)) (aJ))))
  (aV (rU 3 4 (aC (aK (lv0 bS) (eC (.int 20)) (aK (lv dI) (eC (.int 10)) (aR 2 aG (aC (eV 0) (aC (eC (.int 5)) (aJ)))))) (aC (aK (lv0 bS) (eC (.int 60)) (aK (lv dI) (eC (.int 10)) (aR 2 aG (aC (eV 0) (aC (eC (.int 10)) (aJ)))))) (aJ))))
  (aV (bw 5 (aK fIx (jK (aC (cx (aC (eC (.int 0)) (aC (eC (.int 1)) (aC (eC (.int 2)) (aC (eC (.int 3)) (aC (eC (.int 4)) (aC (eC (.int 5)) (aC (eC (.int 6)) (aJ))))))))) (aC (cx (aC (eC (.int 1)) (aC (eC (.int 2)) (aC (eC (.int 5)) (aJ))))) (aC (cx (aC (aR 2 aG (aC (eV 0) (aC (eC (.int 7)) (aJ)))) (aJ))) (aJ))))) (aR 2 aG (aC (eV 0) (aC (eC (.int 3)) (aJ))))))
  (aV (fv (g5 (aC (aK (lv0 bS) (eC (.int 3)) (aR 2 aG (aC (eV 0) (aC (eC (.int 5)) (aJ))))) (aJ))) (gV 6) (aV (rU 7 8 (aC (aK fIx (eV 1) (aK (lv lF) (eB hJ (aC (eV 6) (aJ))) (eB cg (aC (eV 1) (aJ))))) (aC (aK fIx (eV 1) (aK (lv lF) (eB hJ (aC (aK (lv0 bS) (eV 6) (eC (.int 1))) (aJ))) (eB cg (aC (eV 1) (aJ))))) (aJ))))
  (aV (dL (eM bn bD (eV 2) (aC (cx (aC (aK (lv0 bS) (eC (.int 10)) (aK (lv dI) (eC (.int 3)) (eV 6))) (aC (eV 7) (aC (eV 8) (aC (aK (lv0 bS) (eC (.int 300)) (aK (lv dI) (eV 4) (eV 6))) (aC (eV 3) (aC (eV 5) (aC (aK (lv0 bS) (eC (.int 100)) (eV 6)) (aJ))))))))) (aJ))))
  (sIf (tOf (aK (lv dGt) (aR 2 aG (aC (eV 0) (aC (eC (.int 3)) (aJ)))) (eC (.int 0)))) (dL (eM bn bD (eV 2) (aC (cx (aC (aK (lv0 bS) (eC (.int 11)) (aK (lv dI) (eC (.int 3)) (eV 6))) (aC (eV 8) (aC (eV 7) (aC (aK (lv0 bS) (eC (.int 300)) (aK (lv dI) (eV 4) (eV 6))) (aC (aK (lv0 bS) (eV 3) (aK (lv dI) (eC (.int 10)) (aR 2 aG (aC (eV 0) (aC (eC (.int 2)) (aJ)))))) (aC (eV 5) (aC (eC (.int 77)) (aJ))))))))) (aJ)))) (b4)))))
  (bF (cx (aC (eB iu (aC (bv (cF (eV 1)) (gV 9) (c5) (cx (aC (eV 9) (aC (aK (lv0 bS) (eC (.int 10)) (aK (lv dI) (eC (.int 20)) (aR 2 aG (aC (eV 0) (aC (eC (.int 3)) (aJ)))))) (aJ)))) [9]) (aJ))) (aC (eB iu (aC (eV 2) (aJ))) (aJ))))))))
def c9:MF:=ay 9 iZ
theorem mY {P:Program} {w:World} {K:PySem.W.Frag} {mg:Str→Option Value} {base:Heap} (G:Gx P w K mg base):FnE P w K mg base 2 (He.ga K "_law_shuttle") ["_law_state"] c9:=by
  obtain ⟨fd,F⟩:=G.f_law_shuttle
  have fx:=G.fx
  refine ⟨fd,?_⟩
  refine ak (N:=N_law_shuttle) (st:=mX) (k:=1) F ⟨rfl,rfl,rfl,by decide +kernel,rfl,by decide +kernel,by decide +kernel⟩ rfl (fun _ _ _ _ _ _ us hl=>match us,hl with|[_],_=>rfl) fun cdv A outer s H E hcd hp hr W tk=>?_
  have nd:N_law_shuttle.Nodup:=by decide +kernel
  have hu1:=ru1 hr
  have hu64:=cM hr
  have hu65:=cN hr
  exact (aI (oS (i:=1) (j:=2) rfl nd rfl rfl (by decide) rfl rfl (aA (jw (fA (aA gO (aA gO (aA gO aD)))) nF (iJ (aP ax aF (aN (ps:=["_law_state","_law_many"]) (m:=aG) (aQ G) (hr.mono (by decide)) fx.d__law_drawn tk (aA (aB 0) (aA aF aD)))))) (aA (gP aD) aD)))
    (aI (oS (i:=3) (j:=4) rfl nd rfl rfl (by decide) rfl rfl (aA (aP ax aF (aP cP aF (aN (ps:=["_law_state","_law_many"]) (m:=aG) (aQ G) (hr.mono (by decide)) fx.d__law_drawn tk (aA (aB 0) (aA aF aD))))) (aA (aP ax aF (aP cP aF (aN (ps:=["_law_state","_law_many"]) (m:=aG) (aQ G) (hr.mono (by decide)) fx.d__law_drawn tk (aA (aB 0) (aA aF aD))))) aD)))
    (aI (bA (i:=5) nd rfl (by first|exact .inl rfl|exact .inr rfl) (aS hu1 (fA (aA (bE (aA aF (aA aF (aA aF (aA aF (aA aF (aA aF (aA aF aD)))))))) (aA (bE (aA aF (aA aF (aA aF aD)))) (aA (bE (aA (aN (ps:=["_law_state","_law_many"]) (m:=aG) (aQ G) (hr.mono (by decide)) fx.d__law_drawn tk (aA (aB 0) (aA aF aD))) aD)) aD)))) (aN (ps:=["_law_state","_law_many"]) (m:=aG) (aQ G) (hr.mono (by decide)) fx.d__law_drawn tk (aA (aB 0) (aA aF aD)))))
    (aI (cc hp rfl (jM rfl fx.n_range (aA (aP ax aF (aN (ps:=["_law_state","_law_many"]) (m:=aG) (aQ G) (hr.mono (by decide)) fx.d__law_drawn tk (aA (aB 0) (aA aF aD)))) aD)) (aZ (i:=6) nd rfl (by first|exact .inl rfl|exact .inr rfl)) (aI (oS (i:=7) (j:=8) rfl nd rfl rfl (by decide) rfl rfl (aA (aS hu1 (aB 1) (aP gx (dQ iV rfl fx.n_int fF (aA (aB 6) aD)) (bj dR rfl fx.n_len cG (aA (aB 1) aD)))) (aA (aS hu1 (aB 1) (aP gx (dQ iV rfl fx.n_int fF (aA (aP ax (aB 6) aF) aD)) (bj dR rfl fx.n_len cG (aA (aB 1) aD)))) aD)))
    (aI (bx (oY fi PySem.F.plainAttrs_list PySem.F.slot_list_append PySem.F.type_list_append dS (aB 2) (aA (bE (aA (aP ax aF (aP cP aF (aB 6))) (aA (aB 7) (aA (aB 8) (aA (aP ax aF (aP cP (aB 4) (aB 6))) (aA (aB 3) (aA (aB 5) (aA (aP ax aF (aB 6)) aD)))))))) aD)))
    (aL (bH (aY o_gt (aN (ps:=["_law_state","_law_many"]) (m:=aG) (aQ G) (hr.mono (by decide)) fx.d__law_drawn tk (aA (aB 0) (aA aF aD))) aF (by with_unfolding_all rfl)) (aL (bx (oY fi PySem.F.plainAttrs_list PySem.F.slot_list_append PySem.F.type_list_append dS (aB 2) (aA (bE (aA (aP ax aF (aP cP aF (aB 6))) (aA (aB 8) (aA (aB 7) (aA (aP ax aF (aP cP (aB 4) (aB 6))) (aA (aP ax (aB 3) (aP cP aF (aN (ps:=["_law_state","_law_many"]) (m:=aG) (aQ G) (hr.mono (by decide)) fx.d__law_drawn tk (aA (aB 0) (aA aF aD))))) (aA (aB 5) (aA aF aD)))))))) aD)))) aa)))))
    (aL (aU (bE (aA (dQ kg rfl fx.n_tuple bN (aA (bi (own:=[("_law_name",9)]) rfl nd (az (aB 1)) (blkOk_by (by kernel_rfl)) (fun _ _ _ _ _=>(ai (i:=9) nd rfl (by first|exact .inl rfl|exact .inr rfl) (by decide))) (fun _ _ _ _ _=>bz) (fun _ _ _ _ _=>(bE (aA (aB 9) (aA (aP ax aF (aP cP aF (aN (ps:=["_law_state","_law_many"]) (m:=aG) (aQ G) (hr.mono (by decide)) fx.d__law_drawn takes0 (aA (aB 0) (aA aF aD))))) aD))))) aD)) (aA (dQ kg rfl fx.n_tuple bN (aA (aB 2) aD)) aD)))))))))
abbrev sV:Stmt:=(top 42)
abbrev N_law_net:List Str:=["_law_state","_law_names","_law_places","_law_legs","_law_k","_law_start_here","_law_goal","_law_out","_law_long","_law_days","_law_fare","_law_name","_law_day"]
def oD:MS:=aV (sIf (tOf (aK (lv dEq) (aR 2 aG (aC (eV 0) (aC (eC (.int 4)) (aJ)))) (eC (.int 0)))) (bF (aR 1 c9 (aC (eV 0) (aJ)))) (b4))
  (aV (bw 1 (oO (jK (aC (eC (.str "aba")) (aC (eC (.str "bcd")) (aC (eC (.str "cad")) (aC (eC (.str "dub")) (aC (eC (.str "eli")) (aC (eC (.str "fra")) (aJ)))))))) (pNo) (jJ (aK (lv0 bS) (eC (.int 2)) (aR 2 aG (aC (eV 0) (aC (eC (.int 4)) (aJ))))))))
  (aV (bw 2 (eB iu (aC (bv (cF (eV 1)) (gV 11) (c5) (cx (aC (eV 11) (aC (aK fIx (jK (aC (eC (.int 30)) (aC (eC (.int 10)) (aC (eC (.int 60)) (aC (aK (lv0 bS) (eC (.int 10)) (aR 2 aG (aC (eV 0) (aC (eC (.int 291)) (aJ))))) (aJ)))))) (aR 2 aG (aC (eV 0) (aC (eC (.int 4)) (aJ))))) (aJ)))) [11]) (aJ))))
  (aV (bw 3 (iU (aJ)))
  (aV (fv (g5 (aC (aK (lv0 bS) (eC (.int 2)) (aR 2 aG (aC (eV 0) (aC (aK fIx (jK (aC (eC (.int 6)) (aC (eC (.int 13)) (aJ)))) (aR 2 aG (aC (eV 0) (aC (eC (.int 2)) (aJ))))) (aJ))))) (aJ))) (gV 4) (aV (bw 5 (aR 2 aG (aC (eV 0) (aC (eB cg (aC (eV 1) (aJ))) (aJ)))))
  (aV (bw 6 (aK (lv lF) (eB hJ (aC (aK (lv0 bS) (aK (lv0 bS) (eV 5) (eC (.int 1))) (aR 2 aG (aC (eV 0) (aC (aK (lv pS) (eB cg (aC (eV 1) (aJ))) (eC (.int 1))) (aJ))))) (aJ))) (eB cg (aC (eV 1) (aJ)))))
  (aV (bw 7 (jK (aC (aK (lv dI) (eC (.int 60)) (aR 2 aG (aC (eV 0) (aC (eC (.int 24)) (aJ))))) (aC (aK (lv0 bS) (eC (.int 300)) (aK (lv dI) (eC (.int 10)) (aR 2 aG (aC (eV 0) (aC (eC (.int 60)) (aJ)))))) (aC (aR 2 aG (aC (eV 0) (aC (eC (.int 1440)) (aJ)))) (aJ))))))
  (aV (bw 7 (aK fIx (eV 7) (aR 2 aG (aC (eV 0) (aC (eC (.int 3)) (aJ))))))
  (aV (bw 8 (aK fIx (jK (aC (eC (.int 60)) (aC (aK (lv0 bS) (eC (.int 20)) (aK (lv dI) (eC (.int 10)) (aR 2 aG (aC (eV 0) (aC (eC (.int 30)) (aJ)))))) (aC (aK (lv0 bS) (eC (.int 20)) (aR 2 aG (aC (eV 0) (aC (eC (.int 881)) (aJ))))) (aJ))))) (aK (lv dDiv) (aR 2 aG (aC (eV 0) (aC (eC (.int 9)) (aJ)))) (eC (.int 4)))))
  (aV (bw 9 (eB iu (aC (bv (g5 (aC (eC (.int 7)) (aJ))) (gV 12) (tOf (aK (lv dGt) (aR 2 aG (aC (eV 0) (aC (eC (.int 3)) (aJ)))) (eC (.int 0)))) (eV 12) [12]) (aJ))))
  (aV (bw 9 (eIf (tOf (aK (lv dNe) (eV 9) (cx (aJ)))) (eV 9) (cx (aC (aR 2 aG (aC (eV 0) (aC (eC (.int 7)) (aJ)))) (aJ)))))
  (aV (bw 10 (aK fIx (jK (aC (eC (.int 100)) (aC (aK (lv0 bS) (eC (.int 1)) (aR 2 aG (aC (eV 0) (aC (eC (.int 1000)) (aJ))))) (aC (aK (lv0 bS) (eC (.int 1)) (aR 2 aG (aC (eV 0) (aC (eC (.int 100000)) (aJ))))) (aJ))))) (aR 2 aG (aC (eV 0) (aC (eC (.int 3)) (aJ))))))
  (aV (dL (eM bn bD (eV 3) (aC (cx (aC (aK (lv0 bS) (eC (.int 100)) (aK (lv dI) (eC (.int 7)) (eV 4))) (aC (aK fIx (eV 1) (eV 5)) (aC (aK fIx (eV 1) (eV 6)) (aC (eV 7) (aC (eV 8) (aC (eV 9) (aC (eV 10) (aJ))))))))) (aJ))))
  (sIf (tOf (aK (lv dEq) (aR 2 aG (aC (eV 0) (aC (eC (.int 2)) (aJ)))) (eC (.int 0)))) (dL (eM bn bD (eV 3) (aC (cx (aC (aK (lv0 bS) (eC (.int 103)) (aK (lv dI) (eC (.int 7)) (eV 4))) (aC (aK fIx (eV 1) (eV 6)) (aC (aK fIx (eV 1) (eV 5)) (aC (aK (lv lF) (eB hJ (aC (aK (lv0 bS) (aK (lv0 bS) (eV 7) (eV 8)) (eC (.int 60))) (aJ))) (eC (.int 1440))) (aC (eV 8) (aC (eV 9) (aC (eV 10) (aJ))))))))) (aJ)))) (b4))))))))))))
  (bF (cx (aC (eV 2) (aC (eB iu (aC (eIf (tOf (aK (lv dEq) (aR 2 aG (aC (eV 0) (aC (eC (.int 2)) (aJ)))) (eC (.int 0)))) (eV 3) (eRev (eV 3))) (aJ))) (aJ)))))))))
def gJ:MF:=ay 12 oD
theorem sW {P:Program} {w:World} {K:PySem.W.Frag} {mg:Str→Option Value} {base:Heap} (G:Gx P w K mg base):FnE P w K mg base 3 (He.ga K "_law_net") ["_law_state"] gJ:=by
  obtain ⟨fd,F⟩:=G.f_law_net
  have fx:=G.fx
  refine ⟨fd,?_⟩
  refine ak (N:=N_law_net) (st:=sV) (k:=2) F ⟨rfl,rfl,rfl,by decide +kernel,rfl,by decide +kernel,by decide +kernel⟩ rfl (fun _ _ _ _ _ _ us hl=>match us,hl with|[_],_=>rfl) fun cdv A outer s H E hcd hp hr W tk=>?_
  have nd:N_law_net.Nodup:=by decide +kernel
  have hu1:=ru1 hr
  have hu64:=cM hr
  have hu65:=cN hr
  exact (aI (bH (aY (lG hu64) (aN (ps:=["_law_state","_law_many"]) (m:=aG) (aQ G) (hr.mono (by decide)) fx.d__law_drawn tk (aA (aB 0) (aA aF aD))) aF (by with_unfolding_all rfl)) (aL (aU (aN (ps:=["_law_state"]) (m:=c9) (mY G) (hr.mono (by decide)) fx.d__law_shuttle tk (aA (aB 0) aD)))) aa)
    (aI (bA (i:=1) nd rfl (by first|exact .inl rfl|exact .inr rfl) (jw (fA (aA gO (aA gO (aA gO (aA gO (aA gO (aA gO aD))))))) nF (iJ (aP ax aF (aN (ps:=["_law_state","_law_many"]) (m:=aG) (aQ G) (hr.mono (by decide)) fx.d__law_drawn tk (aA (aB 0) (aA aF aD)))))))
    (aI (bA (i:=2) nd rfl (by first|exact .inl rfl|exact .inr rfl) (dQ kg rfl fx.n_tuple bN (aA (bi (own:=[("_law_name",11)]) rfl nd (az (aB 1)) (blkOk_by (by kernel_rfl)) (fun _ _ _ _ _=>(ai (i:=11) nd rfl (by first|exact .inl rfl|exact .inr rfl) (by decide))) (fun _ _ _ _ _=>bz) (fun _ _ _ _ _=>(bE (aA (aB 11) (aA (aS hu1 (fA (aA aF (aA aF (aA aF (aA (aP ax aF (aN (ps:=["_law_state","_law_many"]) (m:=aG) (aQ G) (hr.mono (by decide)) fx.d__law_drawn takes0 (aA (aB 0) (aA aF aD)))) aD))))) (aN (ps:=["_law_state","_law_many"]) (m:=aG) (aQ G) (hr.mono (by decide)) fx.d__law_drawn takes0 (aA (aB 0) (aA aF aD)))) aD))))) aD)))
    (aI (bA (i:=3) nd rfl (by first|exact .inl rfl|exact .inr rfl) (gP aD))
    (aI (cc hp rfl (jM rfl fx.n_range (aA (aP ax aF (aN (ps:=["_law_state","_law_many"]) (m:=aG) (aQ G) (hr.mono (by decide)) fx.d__law_drawn tk (aA (aB 0) (aA (aS hu1 (fA (aA aF (aA aF aD))) (aN (ps:=["_law_state","_law_many"]) (m:=aG) (aQ G) (hr.mono (by decide)) fx.d__law_drawn tk (aA (aB 0) (aA aF aD)))) aD)))) aD)) (aZ (i:=4) nd rfl (by first|exact .inl rfl|exact .inr rfl)) (aI (bA (i:=5) nd rfl (by first|exact .inl rfl|exact .inr rfl) (aN (ps:=["_law_state","_law_many"]) (m:=aG) (aQ G) (hr.mono (by decide)) fx.d__law_drawn tk (aA (aB 0) (aA (bj dR rfl fx.n_len cG (aA (aB 1) aD)) aD))))
    (aI (bA (i:=6) nd rfl (by first|exact .inl rfl|exact .inr rfl) (aP gx (dQ iV rfl fx.n_int fF (aA (aP ax (aP ax (aB 5) aF) (aN (ps:=["_law_state","_law_many"]) (m:=aG) (aQ G) (hr.mono (by decide)) fx.d__law_drawn tk (aA (aB 0) (aA (aP lg (bj dR rfl fx.n_len cG (aA (aB 1) aD)) aF) aD)))) aD)) (bj dR rfl fx.n_len cG (aA (aB 1) aD))))
    (aI (bA (i:=7) nd rfl (by first|exact .inl rfl|exact .inr rfl) (fA (aA (aP cP aF (aN (ps:=["_law_state","_law_many"]) (m:=aG) (aQ G) (hr.mono (by decide)) fx.d__law_drawn tk (aA (aB 0) (aA aF aD)))) (aA (aP ax aF (aP cP aF (aN (ps:=["_law_state","_law_many"]) (m:=aG) (aQ G) (hr.mono (by decide)) fx.d__law_drawn tk (aA (aB 0) (aA aF aD))))) (aA (aN (ps:=["_law_state","_law_many"]) (m:=aG) (aQ G) (hr.mono (by decide)) fx.d__law_drawn tk (aA (aB 0) (aA aF aD))) aD)))))
    (aI (bA (i:=7) nd rfl (by first|exact .inl rfl|exact .inr rfl) (aS hu1 (aB 7) (aN (ps:=["_law_state","_law_many"]) (m:=aG) (aQ G) (hr.mono (by decide)) fx.d__law_drawn tk (aA (aB 0) (aA aF aD)))))
    (aI (bA (i:=8) nd rfl (by first|exact .inl rfl|exact .inr rfl) (aS hu1 (fA (aA aF (aA (aP ax aF (aP cP aF (aN (ps:=["_law_state","_law_many"]) (m:=aG) (aQ G) (hr.mono (by decide)) fx.d__law_drawn tk (aA (aB 0) (aA aF aD))))) (aA (aP ax aF (aN (ps:=["_law_state","_law_many"]) (m:=aG) (aQ G) (hr.mono (by decide)) fx.d__law_drawn tk (aA (aB 0) (aA aF aD)))) aD)))) (aP tA (aN (ps:=["_law_state","_law_many"]) (m:=aG) (aQ G) (hr.mono (by decide)) fx.d__law_drawn tk (aA (aB 0) (aA aF aD))) aF)))
    (aI (bA (i:=9) nd rfl (by first|exact .inl rfl|exact .inr rfl) (dQ kg rfl fx.n_tuple bN (aA (bi (own:=[("_law_day",12)]) rfl nd (jM rfl fx.n_range (aA aF aD)) (blkOk_by (by kernel_rfl)) (fun _ _ _ _ _=>(ai (i:=12) nd rfl (by first|exact .inl rfl|exact .inr rfl) (by decide))) (fun _ _ _ _ _=>(dP (aY o_gt (aN (ps:=["_law_state","_law_many"]) (m:=aG) (aQ G) (hr.mono (by decide)) fx.d__law_drawn takes0 (aA (aB 0) (aA aF aD))) aF (by with_unfolding_all rfl)))) (fun _ _ _ _ _=>(aB 12))) aD)))
    (aI (bA (i:=9) nd rfl (by first|exact .inl rfl|exact .inr rfl) (vD (aY (ig hu64) (aB 9) (bE aD) (by with_unfolding_all rfl)) (aB 9) (bE (aA (aN (ps:=["_law_state","_law_many"]) (m:=aG) (aQ G) (hr.mono (by decide)) fx.d__law_drawn tk (aA (aB 0) (aA aF aD))) aD))))
    (aI (bA (i:=10) nd rfl (by first|exact .inl rfl|exact .inr rfl) (aS hu1 (fA (aA aF (aA (aP ax aF (aN (ps:=["_law_state","_law_many"]) (m:=aG) (aQ G) (hr.mono (by decide)) fx.d__law_drawn tk (aA (aB 0) (aA aF aD)))) (aA (aP ax aF (aN (ps:=["_law_state","_law_many"]) (m:=aG) (aQ G) (hr.mono (by decide)) fx.d__law_drawn tk (aA (aB 0) (aA aF aD)))) aD)))) (aN (ps:=["_law_state","_law_many"]) (m:=aG) (aQ G) (hr.mono (by decide)) fx.d__law_drawn tk (aA (aB 0) (aA aF aD)))))
    (aI (bx (oY fi PySem.F.plainAttrs_list PySem.F.slot_list_append PySem.F.type_list_append dS (aB 3) (aA (bE (aA (aP ax aF (aP cP aF (aB 4))) (aA (aS hu1 (aB 1) (aB 5)) (aA (aS hu1 (aB 1) (aB 6)) (aA (aB 7) (aA (aB 8) (aA (aB 9) (aA (aB 10) aD)))))))) aD)))
    (aL (bH (aY (lG hu64) (aN (ps:=["_law_state","_law_many"]) (m:=aG) (aQ G) (hr.mono (by decide)) fx.d__law_drawn tk (aA (aB 0) (aA aF aD))) aF (by with_unfolding_all rfl)) (aL (bx (oY fi PySem.F.plainAttrs_list PySem.F.slot_list_append PySem.F.type_list_append dS (aB 3) (aA (bE (aA (aP ax aF (aP cP aF (aB 4))) (aA (aS hu1 (aB 1) (aB 6)) (aA (aS hu1 (aB 1) (aB 5)) (aA (aP gx (dQ iV rfl fx.n_int fF (aA (aP ax (aP ax (aB 7) (aB 8)) aF) aD)) aF) (aA (aB 8) (aA (aB 9) (aA (aB 10) aD)))))))) aD)))) aa))))))))))))
    (aL (aU (bE (aA (aB 2) (aA (dQ kg rfl fx.n_tuple bN (aA (vD (aY (lG hu64) (aN (ps:=["_law_state","_law_many"]) (m:=aG) (aQ G) (hr.mono (by decide)) fx.d__law_drawn tk (aA (aB 0) (aA aF aD))) aF (by with_unfolding_all rfl)) (aB 3) (sE_rev (aB 3))) aD)) aD))))))))))
abbrev pE:Stmt:=(top 39)
abbrev N_law_start:List Str:=["_law_script","_law_mixed","_law_cell"]
def lC:MS:=aV (bw 1 (eC (.int 1)))
  (aV (fv (cF (eV 0)) (gV 2) (bw 1 (aK (lv lF) (eB hJ (aC (aK (lv0 bS) (aK (lv0 bS) (aK (lv dI) (eV 1) (eC (.int 48271))) (eV 2)) (eC (.int 7))) (aJ))) (eC (.int 2147483647)))))
  (bF (iU (aC (eV 0) (aC (eC (.int 0)) (aC (eV 1) (aC (eC (.int 0)) (aJ))))))))
def eO:MF:=ay 2 lC
theorem pF {P:Program} {w:World} {K:PySem.W.Frag} {mg:Str→Option Value} {base:Heap} (G:Gx P w K mg base):FnE P w K mg base 1 (He.ga K "_law_start") ["_law_script"] eO:=by
  obtain ⟨fd,F⟩:=G.f_law_start
  have fx:=G.fx
  refine ⟨fd,?_⟩
  refine ak (N:=N_law_start) (st:=pE) (k:=0) F ⟨rfl,rfl,rfl,by decide +kernel,rfl,by decide +kernel,by decide +kernel⟩ rfl (fun _ _ _ _ _ _ us hl=>match us,hl with|[_],_=>rfl) fun cdv A outer s H E hcd hp hr W tk=>?_
  have nd:N_law_start.Nodup:=by decide +kernel
  have hu1:=ru1 hr
  have hu64:=cM hr
  have hu65:=cN hr
  exact (aI (bA (i:=1) nd rfl (by first|exact .inl rfl|exact .inr rfl) aF)
    (aI (cc hp rfl (az (aB 0)) (aZ (i:=2) nd rfl (by first|exact .inl rfl|exact .inr rfl)) (aL (bA (i:=1) nd rfl (by first|exact .inl rfl|exact .inr rfl) (aP gx (dQ iV rfl fx.n_int fF (aA (aP ax (aP ax (aP cP (aB 1) aF) (aB 2)) aF) aD)) aF))))
    (aL (aU (gP (aA (aB 0) (aA aF (aA (aB 1) (aA aF aD)))))))))
abbrev st_law:Stmt:=(top 50)
abbrev N_law:List Str:=["_law_script","_law_state","_law_step","_law_net_here","_law_turn","_law_first","_law_last","_law_rides_here","_law_many","_law_chains","_law_cover","_law_every","_law_chain","_law_begins","_law_k"]
def b_law:MS:=aV (bw 1 (aR 1 eO (aC (eV 0) (aJ))))
  (aV (fv (g5 (aC (eC (.int 2)) (aJ))) (gV 2) (aV (fg (cx (aC (aR 1 gJ (aC (eV 1) (aJ))) (aC (aK (lv0 bS) (eC (.int 10)) (aR 2 aG (aC (eV 1) (aC (eC (.int 291)) (aJ))))) (aC (aR 2 aG (aC (eV 1) (aC (eC (.int 50)) (aJ)))) (aJ))))) (dg 3 (au (gV 3) (au (gV 4) (au (gV 5) (eW))))))
  (aV (bw 6 (aK (lv0 bS) (eV 5) (aR 2 aG (aC (eV 1) (aC (eC (.int 3)) (aJ))))))
  (aV (bw 7 (aR 3 eK (aC (eV 3) (aC (eV 5) (aC (eV 6) (aJ))))))
  (aV (sIf (tOf (aK (lv dNe) (aR 3 jo (aC (eV 3) (aC (eV 5) (aC (eV 6) (aJ))))) (eV 7))) (bF (eC (.bool false))) (b4))
  (aV (fg (aR 4 dX (aC (eV 3) (aC (eV 4) (aC (eV 5) (aC (eV 6) (aJ)))))) (dg 3 (au (gV 8) (au (gV 9) (au (gV 10) (eW))))))
  (aV (sIf (dJ (tOf (aK (lv dNe) (eV 8) (aR 3 eJ (aC (eV 3) (aC (eV 4) (aC (eV 7) (aJ))))))) (tOf (aK (lv dNe) (eV 8) (eB cg (aC (eV 9) (aJ)))))) (bF (eC (.bool false))) (b4))
  (aV (bw 11 (jK (aJ)))
  (aV (fv (cF (eV 9)) (gV 12) (aV (bw 11 (aK (lv0 bS) (eV 11) (eB tW (aC (eV 12) (aJ)))))
  (sIf (tOf (aK (lv dNe) (bv (g5 (aC (aK (lv pS) (eB cg (aC (eV 12) (aJ))) (eC (.int 1))) (aJ))) (gV 14) (bu (cQ (aR 4 dw (aC (eV 3) (aC (eV 4) (aC (aK fIx (eV 12) (eV 14)) (aC (aK fIx (eV 12) (aK (lv0 bS) (eV 14) (eC (.int 1)))) (aJ)))))))) (eV 14) [14]) (jK (aJ)))) (bF (eC (.bool false))) (b4))))
  (aV (bw 13 (bv (cF (eV 9)) (gV 12) (c5) (cx (aC (aR 2 bq (aC (eV 3) (aC (aK fIx (eV 12) (eC (.int 0))) (aJ)))) (aC (aK fIx (aK fIx (eV 12) (eC (.int 0))) (eC (.int 1))) (aJ)))) [12]))
  (aV (sIf (dJ (tOf (aK (lv dNe) (eB dW (aC (eV 11) (aJ))) (eB dW (aC (eV 7) (aJ))))) (dJ (tOf (aK (lv dNe) (eV 13) (eB dW (aC (eV 13) (aJ))))) (tOf (aK (lv dNe) (eV 10) (eB iu (aC (iO true (eV 10)) (aJ))))))) (bF (eC (.bool false))) (b4))
  (aV (sIf (tOf (aK (lv dNe) (aR 5 bc (aC (eV 3) (aC (eV 4) (aC (eV 5) (aC (eV 6) (aC (eV 10) (aJ))))))) (eV 8))) (bF (eC (.bool false))) (b4))
  (aV (sIf (nH (tOf (aK (lv dNe) (eV 10) (cx (aJ)))) (tOf (aK (lv oN) (aR 5 bc (aC (eV 3) (aC (eV 4) (aC (eV 5) (aC (eV 6) (aC (oO (eV 10) (jJ (eC (.int 1))) (pNo)) (aJ))))))) (eC .none)))) (bF (eC (.bool false))) (b4))
  (sIf (dJ (tOf (aK (lv dLt) (aK fIx (aR 4 dX (aC (eV 3) (aC (eB nO (aC (eC (.int 300)) (aC (aK (lv0 bS) (eV 4) (eC (.int 60))) (aJ)))) (aC (eV 5) (aC (eV 6) (aJ)))))) (eC (.int 0))) (eV 8))) (tOf (aK (lv dLt) (aK fIx (aR 4 dX (aC (eV 3) (aC (eV 4) (aC (eV 5) (aC (aK (lv0 bS) (eV 6) (eC (.int 1))) (aJ)))))) (eC (.int 0))) (eV 8)))) (bF (eC (.bool false))) (b4)))))))))))))))
  (bF (eC (.bool true))))
def qv:MF:=ay 14 b_law
theorem ok_law {P:Program} {w:World} {K:PySem.W.Frag} {mg:Str→Option Value} {base:Heap} (G:Gx P w K mg base) {fd:FuncData} (F:FunD K "law" "law" (defArgs (top 50)) (defBody (top 50)) (defScope (top 50)) [] [] (He.ga K "law") fd):FnM P w K mg base 125 (He.ga K "law") fd ["_law_script"] qv:=by
  have fx:=G.fx
  refine ak (N:=N_law) (st:=st_law) (k:=124) F ⟨rfl,rfl,rfl,by decide +kernel,rfl,by decide +kernel,by decide +kernel⟩ rfl (fun _ _ _ _ _ _ us hl=>match us,hl with|[_],_=>rfl) fun cdv A outer s H E hcd hp hr W tk=>?_
  have nd:N_law.Nodup:=by decide +kernel
  have hu1:=ru1 hr
  have hu64:=cM hr
  have hu65:=cN hr
  exact (aI (bA (i:=1) nd rfl (by first|exact .inl rfl|exact .inr rfl) (aN (ps:=["_law_script"]) (m:=eO) (pF G) (hr.mono (by decide)) fx.d__law_start tk (aA (aB 0) aD)))
    (aI (cc hp rfl (jM rfl fx.n_range (aA aF aD)) (aZ (i:=2) nd rfl (by first|exact .inl rfl|exact .inr rfl)) (aI (cR (bE (aA (aN (ps:=["_law_state"]) (m:=gJ) (sW G) (hr.mono (by decide)) fx.d__law_net tk (aA (aB 1) aD)) (aA (aP ax aF (aN (ps:=["_law_state","_law_many"]) (m:=aG) (aQ G) (hr.mono (by decide)) fx.d__law_drawn tk (aA (aB 1) (aA aF aD)))) (aA (aN (ps:=["_law_state","_law_many"]) (m:=aG) (aQ G) (hr.mono (by decide)) fx.d__law_drawn tk (aA (aB 1) (aA aF aD))) aD)))) (gQ rfl (aq (aZ (i:=3) nd rfl (by first|exact .inl rfl|exact .inr rfl)) (aq (aZ (i:=4) nd rfl (by first|exact .inl rfl|exact .inr rfl)) (aq (aZ (i:=5) nd rfl (by first|exact .inl rfl|exact .inr rfl)) eg)))))
    (aI (bA (i:=6) nd rfl (by first|exact .inl rfl|exact .inr rfl) (aP ax (aB 5) (aN (ps:=["_law_state","_law_many"]) (m:=aG) (aQ G) (hr.mono (by decide)) fx.d__law_drawn tk (aA (aB 1) (aA aF aD)))))
    (aI (bA (i:=7) nd rfl (by first|exact .inl rfl|exact .inr rfl) (aN (ps:=["_law_net_here","_law_first","_law_last"]) (m:=eK) (pC G) (hr.mono (by decide)) fx.d__law_rides tk (aA (aB 3) (aA (aB 5) (aA (aB 6) aD)))))
    (aI (bH (aY (ig hu64) (aN (ps:=["net","first","last"]) (m:=jo) (wU G) (hr.mono (by decide)) fx.d_dated tk (aA (aB 3) (aA (aB 5) (aA (aB 6) aD)))) (aB 7) (by with_unfolding_all rfl)) (aL (aU bC)) aa)
    (aI (cR (aN (ps:=["net","turn","first","last"]) (m:=dX) (kK G) (hr.mono (by decide)) fx.d_fewest tk (aA (aB 3) (aA (aB 4) (aA (aB 5) (aA (aB 6) aD))))) (gQ rfl (aq (aZ (i:=8) nd rfl (by first|exact .inl rfl|exact .inr rfl)) (aq (aZ (i:=9) nd rfl (by first|exact .inl rfl|exact .inr rfl)) (aq (aZ (i:=10) nd rfl (by first|exact .inl rfl|exact .inr rfl)) eg)))))
    (aI (bH (br (cC (aY (ig hu64) (aB 8) (aN (ps:=["_law_net_here","_law_turn","_law_rides_here"]) (m:=eJ) (pA G) (hr.mono (by decide)) fx.d__law_least tk (aA (aB 3) (aA (aB 4) (aA (aB 7) aD)))) (by with_unfolding_all rfl)) (cD (aY (ig hu64) (aB 8) (bj dR rfl fx.n_len cG (aA (aB 9) aD)) (by with_unfolding_all rfl))))) (aL (aU bC)) aa)
    (aI (bA (i:=11) nd rfl (by first|exact .inl rfl|exact .inr rfl) (fA aD))
    (aI (cc hp rfl (az (aB 9)) (aZ (i:=12) nd rfl (by first|exact .inl rfl|exact .inr rfl)) (aI (bA (i:=11) nd rfl (by first|exact .inl rfl|exact .inr rfl) (aP ax (aB 11) (dQ c_list rfl fx.n_list xX (aA (aB 12) aD))))
    (aL (bH (aY (ig hu64) (bi (own:=[("_law_k",14)]) rfl nd (jM rfl fx.n_range (aA (aP lg (bj dR rfl fx.n_len cG (aA (aB 12) aD)) aF) aD)) (blkOk_by (by kernel_rfl)) (fun _ _ _ _ _=>(ai (i:=14) nd rfl (by first|exact .inl rfl|exact .inr rfl) (by decide))) (fun _ _ _ _ _=>(dP (bU (a9 (aN (ps:=["_law_net_here","_law_turn","_law_one","_law_other"]) (m:=dw) (mW G) (hr.mono (by decide)) fx.d__law_may takes0 (aA (aB 3) (aA (aB 4) (aA (aS hu1 (aB 12) (aB 14)) (aA (aS hu1 (aB 12) (aP ax (aB 14) aF)) aD))))))))) (fun _ _ _ _ _=>(aB 14))) (fA aD) (by with_unfolding_all rfl)) (aL (aU bC)) aa))))
    (aI (ir (own:=[("_law_chain",12)]) (i:=13) rfl nd rfl rfl rfl (az (aB 9)) (blkOk_by (by kernel_rfl)) (fun _ _ _ _ _=>(ai (i:=12) nd rfl (by first|exact .inl rfl|exact .inr rfl) (by decide))) (fun _ _ _ _ _=>bz) (fun _ _ _ _ _=>(bE (aA (aN (ps:=["_law_net_here","_law_ride"]) (m:=bq) (gW G) (hr.mono (by decide)) fx.d__law_leave takes0 (aA (aB 3) (aA (aS hu1 (aB 12) aF) aD))) (aA (aS hu1 (aS hu1 (aB 12) aF) aF) aD)))))
    (aI (bH (br (cC (aY (ig hu64) (bj (hV hu65) rfl fx.n_sorted e8 (aA (aB 11) aD)) (bj (hV hu65) rfl fx.n_sorted e8 (aA (aB 7) aD)) (by with_unfolding_all rfl)) (cC (aY (ig hu64) (aB 13) (bj (hV hu65) rfl fx.n_sorted e8 (aA (aB 13) aD)) (by with_unfolding_all rfl)) (cD (aY (ig hu64) (aB 10) (dQ kg rfl fx.n_tuple bN (aA (qc true hu65 rfl rfl fx.n_sorted rfl fx.n_set (aB 10)) aD)) (by with_unfolding_all rfl)))))) (aL (aU bC)) aa)
    (aI (bH (aY (ig hu64) (aN (ps:=["net","turn","first","last","cover"]) (m:=bc) (gr G) (hr.mono (by decide)) fx.d_shown_planes tk (aA (aB 3) (aA (aB 4) (aA (aB 5) (aA (aB 6) (aA (aB 10) aD)))))) (aB 8) (by with_unfolding_all rfl)) (aL (aU bC)) aa)
    (aI (bH (br (rQ (aY (ig hu64) (aB 10) (bE aD) (by with_unfolding_all rfl)) (tH (aY o_isnt (aN (ps:=["net","turn","first","last","cover"]) (m:=bc) (gr G) (hr.mono (by decide)) fx.d_shown_planes tk (aA (aB 3) (aA (aB 4) (aA (aB 5) (aA (aB 6) (aA (jw (aB 10) (iJ aF) nF) aD)))))) lJ (by with_unfolding_all rfl))))) (aL (aU bC)) aa)
    (aL (bH (br (cC (aY o_lt (aS hu1 (aN (ps:=["net","turn","first","last"]) (m:=dX) (kK G) (hr.mono (by decide)) fx.d_fewest tk (aA (aB 3) (aA (bj (vR rfl) rfl fx.n_min vX (aA aF (aA (aP ax (aB 4) aF) aD))) (aA (aB 5) (aA (aB 6) aD))))) aF) (aB 8) (by with_unfolding_all rfl)) (cD (aY o_lt (aS hu1 (aN (ps:=["net","turn","first","last"]) (m:=dX) (kK G) (hr.mono (by decide)) fx.d_fewest tk (aA (aB 3) (aA (aB 4) (aA (aB 5) (aA (aP ax (aB 6) aF) aD))))) aF) (aB 8) (by with_unfolding_all rfl))))) (aL (aU bC)) aa)))))))))))))))
    (aL (aU bC))))
end
end DL
namespace DL
open PySem PySem.Spec PyProof.Rows L2 LamX
def gu (b:Bool) (l:List Int):D:=if b then .tpn (l.map .int) else .tup (l.map .int)
structure Leg where
  num:Int
  start:Str
  goal:Str
  out:Int
  long:Int
  db:Bool
  days:List Int
  fare:Int
  deriving Inhabited
def Leg.d (l:Leg):D:=.tup [.int l.num,.str l.start,.str l.goal,.int l.out,.int l.long,gu l.db l.days,.int l.fare]
abbrev aH:=Int × Int
def aE (r:aH):D:=.tup [.int r.1,.int r.2]
structure lD (names:List Str) (l:Leg):Prop where
  num:1≤l.num∧l.num≤9999
  s:l.start∈names
  g:l.goal∈names
  ne:l.start≠l.goal
  out:0≤l.out∧l.out<1440
  long:20≤l.long∧l.long≤900
  dne:l.days≠[]
  dlt:l.days.Pairwise (·<·)
  dbd:∀d∈l.days,0≤d∧d≤6
  fare:1≤l.fare∧l.fare≤100000
  odd:l.num≠99∧l.num≠9999
def six:List Str:=["aba","bcd","cad","dub","eli","fra"]
def bf (p:Str × Int):D:=.tup [.str p.1,.int p.2]
def dH (ps:List (Str × Int)) (ls:List Leg):D:=.tup [.tpn (ps.map bf),.tpn (ls.map Leg.d)]
structure NetOk (ps:List (Str × Int)) (ls:List Leg):Prop where
  names:∃n,2≤n∧n≤6∧ps.map (·.1)=six.take n
  ch:∀p∈ps,10≤p.2∧p.2≤300
  legs:∀l∈ls,lD (ps.map (·.1)) l
  nd:(ls.map (·.num)).Nodup
  ne:ls≠[]
  len:ls.length≤60
  few:ls.length≤28
  n99:∀l∈ls,l.num≠99
theorem rideEnc:Enc 1 aE:=by
  have:=Enc.pair Enc.int Enc.int
  exact this
@[simp] theorem dayD_vt (b:Bool) (l:List Int):vt (gu b l)=.tup (l.map .int):=by cases b<;>rfl
@[simp] theorem oE (S:Sto) (b:Bool) (l:List Int):view S (gu b l)=.tup (l.map .int):=by cases b<;>rfl
/-- a leg by its number -/
def bR (ls:List Leg) (n:Int):Leg:=(ls.find? fun l=>l.num == n).getD default
def HasLeg (ls:List Leg) (n:Int):Prop:=∃l∈ls,l.num=n
theorem gX {ls:List Leg} {n:Int} (h:HasLeg ls n):(ls.find? fun l=>l.num == n)=some (bR ls n):=by
  obtain ⟨l,hl,e⟩:=h
  unfold bR
  cases hf:ls.find? (fun l=>l.num == n) with
  | none=>exact absurd (List.find?_eq_none.mp hf l hl) (by simp[e])
  | some a=>rfl
theorem gK {ls:List Leg} {n:Int} (h:HasLeg ls n):bR ls n∈ls:=List.mem_of_find?_eq_some (gX h)
theorem oF {ls:List Leg} {n:Int} (h:HasLeg ls n):(bR ls n).num=n:=by
  have:=List.find?_some (gX h)
  simpa using this
theorem HasLeg.of {ls:List Leg} {l:Leg} (h:l∈ls):HasLeg ls l.num:=⟨l,h,rfl⟩
theorem iB {ls:List Leg} (nd:(ls.map (·.num)).Nodup) {l:Leg} (h:l∈ls):bR ls l.num=l:=by
  induction ls with
  | nil=>cases h
  | cons a ls ih=>
    unfold bR
    rw[List.find?_cons]
    rw[List.map_cons,List.nodup_cons] at nd
    by_cases e:a.num=l.num
    · rcases List.mem_cons.mp h with rfl|h
      · simp
      · exact absurd (List.mem_map.mpr ⟨l,h,e.symm⟩) nd.1
    · rcases List.mem_cons.mp h with rfl|h
      · exact absurd rfl e
      · have e':(a.num == l.num)=false:=by simpa using e
        rw[e']
        exact ih nd.2 h
/-- the legs with a number: just that one -/
theorem uk {ls:List Leg} (nd:(ls.map (·.num)).Nodup) {n:Int} (h:HasLeg ls n):ls.filter (fun l=>decide (l.num=n))=[bR ls n]:=by
  obtain ⟨l,hl,rfl⟩:=h
  rw[iB nd hl]
  induction ls with
  | nil=>cases hl
  | cons a ls ih=>
    rw[List.map_cons,List.nodup_cons] at nd
    rcases List.mem_cons.mp hl with rfl|hl
    · rw[List.filter_cons_of_pos (by simp)]
      congr 1
      rw[List.filter_eq_nil_iff]
      intro b hb
      simp only[decide_eq_true_eq]
      exact fun z=>nd.1 (List.mem_map.mpr ⟨b,hb,z⟩)
    · rw[List.filter_cons_of_neg]
      · exact ih nd.2 hl
      · simp only[decide_eq_true_eq]
        exact fun z=>nd.1 (List.mem_map.mpr ⟨l,hl,z.symm⟩)
def i7 (ls:List Leg) (r:aH):Str:=(bR ls r.2).start
def mZ (ls:List Leg) (r:aH):Str:=(bR ls r.2).goal
def oG (ls:List Leg) (r:aH):Int:=(bR ls r.2).long
def av (ls:List Leg) (r:aH):Int:=r.1*1440+(bR ls r.2).out
def e6 (ls:List Leg) (r:aH):Int:=av ls r+oG ls r
/-- what goes on a day -/
def rGoes (ls:List Leg) (r:aH):Prop:=0≤r.1∧r.1≤60∧HasLeg ls r.2∧r.1 % 7∈(bR ls r.2).days
theorem rGoes.has {ls:List Leg} {r:aH} (h:rGoes ls r):HasLeg ls r.2:=h.2.2.1
structure NetAt (S:Sto) (l:Nat) (ps:List (Str × Int)) (ls:List Leg):Prop where
  ex:∃c g,S[l]?=some (.ins "Net" [("changes",.loc c),("legs",.loc g)])∧S[c]?=some (.dct false (ps.map fun p=>(.str p.1,.int p.2)))∧S[g]?=some (.dct false (ls.map fun x=>(.int x.num,x.d)))
/-- the same,told: its legs may be locked -/
structure pG (S:Sto) (l:Nat) (ls:List Leg):Prop where
  ex:∃c g,S[l]?=some (.ins "Net" [("changes",.loc c),("legs",.loc g)])∧c4 S[g]?=some (false,ls.map fun x=>(.int x.num,x.d))
theorem NetAt.l {S:Sto} {l:Nat} {ps:List (Str × Int)} {ls:List Leg} (h:NetAt S l ps ls):pG S l ls:=by
  obtain ⟨c,g,h1,h2,h3⟩:=h.ex
  exact ⟨⟨c,g,h1,by rw[h3]; rfl⟩⟩
theorem ae {S:Sto} {l:Nat} {o:O} (h:S[l]?=some o) (T:Sto):(S++T)[l]?=some o:=by
  rw[List.getElem?_append_left (List.getElem?_eq_some_iff.mp h).1]; exact h
theorem NetAt.app {S:Sto} {l:Nat} {ps:List (Str × Int)} {ls:List Leg} (h:NetAt S l ps ls) (T:Sto):NetAt (S++T) l ps ls:=by
  obtain ⟨c,g,h1,h2,h3⟩:=h.ex
  exact ⟨c,g,ae h1 T,ae h2 T,ae h3 T⟩
end DL
set_option maxHeartbeats 1000000
namespace DL
open PySem PySem.Spec PyProof.Rows L2 LamX
/-- the state of the drawing -/
def stD (sc:List Int) (p m r:Int):O:=.lst [.ro (sc.map .int),.int p,.int m,.int r]
structure Dr (sc:List Int) (o:O):Prop where
  ex:∃p m r,o=stD sc p m r∧0≤p∧0≤r
theorem sX {sc:List Int} {p m r:Int} {T:Sto} {many:Int} (hm:0<many) (hm2:many<1073741824) (h0:0≤p) (hr:0≤r) :
    ∃v p' m' r',aG [.loc 0,.int many] (stD sc p m r::T)=.ok (.int v) (stD sc p' m' r'::T)∧0≤v∧v<many∧0≤p'∧0≤r':=by
  by_cases h:0<r
  · exact ⟨r % many,p,m,r / many,by simp[aG,eL,stD,fIx,h,hm,hm2,atI,ixN,eE,iR,hJ,bM],Int.emod_nonneg _ (by omega),Int.emod_lt_of_pos _ hm,h0,Int.ediv_nonneg hr (by omega)⟩
  · have hr0:r=0:=by omega
    subst hr0
    by_cases hp:p+1≤sc.length
    · have hx:atI (sc.map D.int) p=some (.int (sc[p.toNat]'(by omega))):=by
        rw[jW h0 (by simp; omega)]
        simp[List.getElem?_map,List.getElem?_eq_getElem (show p.toNat<sc.length by omega)]
      generalize sc[p.toNat]'(by omega)=c at hx
      have x1:ixN 4 1=some 1:=rfl
      have x3:ixN 4 3=some 3:=rfl
      by_cases hc:1000000000000000000≤c
      · refine ⟨c % many,p+1,m,c / many,?_,Int.emod_nonneg _ (by omega),Int.emod_lt_of_pos _ hm,by omega,Int.ediv_nonneg (by omega) (by omega)⟩
        simp[aG,eL,stD,fIx,x1,x3,hx,hc,hm,hm2,eE,iR,hJ,bM,cg,hp,cPow]
      · refine ⟨c % many,p+1,m,0,?_,Int.emod_nonneg _ (by omega),Int.emod_lt_of_pos _ hm,by omega,by omega⟩
        simp[aG,eL,stD,fIx,x1,x3,hx,hc,hm,hm2,eE,iR,hJ,bM,cg,hp,cPow]
    · refine ⟨(m*48271+11) % 2147483647 / 7 % many,p+1,(m*48271+11) % 2147483647,0,?_,Int.emod_nonneg _ (by omega),Int.emod_lt_of_pos _ hm,by omega,by omega⟩
      simp[aG,eL,stD,fIx,hm,hm2,atI,ixN,eE,iR,hJ,bM,cg,hp,cPow,bT]
theorem aX {sc:List Int} {o:O} {T:Sto} {many:Int} {Q:D→Sto→Prop} {E:XV→Sto→Prop} (d:Dr sc o) (hm:0<many) (hm2:many<1073741824) (k:∀(v:Int) (o':O),Dr sc o'→0≤v→v<many→Q (.int v) (o'::T)):Res.wp (aG [.loc 0,.int many] (o::T)) Q E:=by
  obtain ⟨p,m,r,rfl,h0,hr⟩:=d.ex
  obtain ⟨v,p',m',r',e,h1,h2,h3,h4⟩:=sX (sc:=sc) (m:=m) (T:=T) hm hm2 h0 hr
  rw[e,fJ]
  exact k v _ ⟨p',m',r',rfl,h3,h4⟩ h1 h2
theorem wV {sc:List Int} {Q:D→Sto→Prop} {E:XV→Sto→Prop} (k:∀o,Dr sc o→Q (.loc 0) [o]):Res.wp (eO [.ro (sc.map .int)] []) Q E:=by
  unfold eO
  apply aW
  unfold lC
  simp
  refine eU (f:=D.int) sc (fun _ _ env S=>∃m x,env=[some (.ro (sc.map .int)),some (.int m),x]∧S=[]) rfl ⟨_,_,rfl,rfl⟩ ?_ ?_
  · rintro pre x rest env S _ ⟨m,y,rfl,rfl⟩
    refine ⟨_,rfl,?_⟩
    simp[bT,eE]
  · rintro env S ⟨m,x,rfl,rfl⟩
    simp
    exact k _ ⟨0,m,0,rfl,by omega,by omega⟩
end DL
namespace DL
open PySem PySem.Spec PyProof.Rows L2 LamX
theorem pick {xs:List D} {v:Int} (h0:0≤v) (h1:v<xs.length) (P:D→Prop) (h:∀d∈xs,P d):∃d,atI xs v=some d∧P d:=by
  obtain ⟨x,hx,e⟩:=sA h0 h1
  exact ⟨x,e,h x hx⟩
theorem fQ {n:Nat} (h:n≤6):(six.take n).length=n∧(six.take n).Nodup:=by
  have:n=0∨n=1∨n=2∨n=3∨n=4∨n=5∨n=6:=by omega
  rcases this with rfl|rfl|rfl|rfl|rfl|rfl|rfl<;>decide +kernel
theorem fR (lo:Int) (n:Nat):jy lo n=(List.range n).map fun i=>D.int (lo+(i:Nat)):=rfl
theorem jp {n:Nat} {pre rest:List Nat} {k:Nat} (h:pre++k::rest=List.range n):k=pre.length∧k<n:=by
  have hl:=congrArg List.length h
  simp at hl
  have hk:(pre++k::rest)[pre.length]?=some k:=by simp
  rw[h,List.getElem?_range (by omega)] at hk
  cases hk
  exact ⟨rfl,by omega⟩
/-- legs that are being drawn: k turns of them behind one another -/
structure LegsUpTo (names:List Str) (top:Int) (n:Nat) (ls:List Leg):Prop where
  ok:∀l∈ls,lD names l
  nd:(ls.map (·.num)).Nodup
  lt:∀l∈ls,l.num<top
  len:ls.length≤n
  n99:∀l∈ls,l.num≠99
theorem LegsUpTo.add {names:List Str} {t t':Int} {n n':Nat} {ls:List Leg} {l:Leg} (h:LegsUpTo names t n ls) (hl:lD names l) (h1:t≤l.num) (h2:l.num<t') (hn:n+1≤n') (h99:l.num≠99):LegsUpTo names t' n' (ls++[l]) where
  ok:=fun x hx=>by
    rcases List.mem_append.mp hx with hx|hx
    · exact h.ok x hx
    · rw[List.mem_singleton.mp hx]; exact hl
  nd:=by
    rw[List.map_append,List.nodup_append]
    refine ⟨h.nd,by simp,fun a ha b hb=>?_⟩
    obtain ⟨x,hx,rfl⟩:=List.mem_map.mp ha
    obtain ⟨y,hy,rfl⟩:=List.mem_map.mp hb
    rw[List.mem_singleton.mp hy]
    have:=h.lt x hx
    omega
  lt:=fun x hx=>by
    rcases List.mem_append.mp hx with hx|hx
    · have:=h.lt x hx
      omega
    · rw[List.mem_singleton.mp hx]; exact h2
  len:=by rw[List.length_append]; have:=h.len; simp; omega
  n99:=fun x hx=>by
    rcases List.mem_append.mp hx with hx|hx
    · exact h.n99 x hx
    · rw[List.mem_singleton.mp hx]; exact h99
theorem LegsUpTo.mono {names:List Str} {t t':Int} {n n':Nat} {ls:List Leg} (h:LegsUpTo names t n ls) (h1:t≤t') (hn:n≤n'):LegsUpTo names t' n' ls:=
  ⟨h.ok,h.nd,fun l hl=>by have:=h.lt l hl; omega,by have:=h.len; omega,h.n99⟩
theorem LegsUpTo.nil (names:List Str) (t:Int) (n:Nat):LegsUpTo names t n []:=⟨nofun,.nil,nofun,by simp,nofun⟩
def nm (i:Int):Str:=six.getD i.toNat ""
theorem uF:six.length=6:=rfl
theorem pH {i:Int} (h0:0≤i) (h1:i<6):six[i.toNat]?=some (nm i):=by
  unfold nm
  rw[List.getD_eq_getElem?_getD,List.getElem?_eq_getElem (by rw[uF]; omega)]
  rfl
theorem uG {m:Nat} {i:Int} (hm:m≤6) (h0:0≤i) (h1:i<m):atI ((six.take m).map D.str) i=some (.str (nm i)):=by
  rw[jW h0 (by rw[List.length_map,(fQ hm).1]; exact h1),List.getElem?_map,List.getElem?_take_of_lt (by omega),pH h0 (by omega)]
  rfl
theorem iD {m:Nat} {i:Int} (hm:m≤6) (h0:0≤i) (h1:i<m):nm i∈six.take m:=by
  have:=pH h0 (by omega)
  rw[←List.getElem?_take_of_lt (l:=six) (j:=m) (by omega)] at this
  exact List.mem_of_getElem? this
theorem uH {i j:Int} (h0:0≤i) (h1:i<6) (h2:0≤j) (h3:j<6) (h:i≠j):nm i≠nm j:=fun e=>by
  have nd:six.Nodup:=by decide +kernel
  have a:=pH h0 h1
  have b:=pH h2 h3
  rw[←e,←a] at b
  have:=(List.getElem?_inj (by rw[uF]; omega) nd).mp b
  omega
theorem wW {k m:Int} (h:2≤m) (c:Int) (h1:1≤c) (h2:c<m):(k+c) % m≠k % m:=fun e=>by
  have h3:=Int.emod_emod_of_dvd k (Int.dvd_refl m)
  have h4:(k+c - k) % m=0:=by rw[Int.sub_emod,e]; simp
  rw[show k+c - k=c by omega,Int.emod_eq_of_lt (by omega) h2] at h4
  omega
/-- days that a leg may have -/
structure DaysOk (ds:List Int):Prop where
  ne:ds≠[]
  lt:ds.Pairwise (·<·)
  bd:∀d∈ds,0≤d∧d≤6
theorem DaysOk.one {v:Int} (h0:0≤v) (h1:v<7):DaysOk [v]:=⟨by simp,by simp,fun d hd=>by rw[List.mem_singleton.mp hd]; omega⟩
theorem qw {m:Nat} {t:Int} {n:Nat} {ps:List (Str × Int)} {ls:List Leg} (h:LegsUpTo (six.take m) t n ls) (hm:2≤m∧m≤6) (hn:n≤28) (ne:ls≠[]) (hp:ps.map (·.1)=six.take m) (hc:∀p∈ps,10≤p.2∧p.2≤300):NetOk ps ls:=
  ⟨⟨m,hm.1,hm.2,hp⟩,hc,by rw[hp]; exact h.ok,h.nd,ne,by have:=h.len; omega,Nat.le_trans h.len hn,h.n99⟩
/-- what stands as legs are drawn -/
structure LegI (sc:List Int) (T:Sto) (front:En) (names:List Str) (nt:Nat) (top:Int) (n:Nat) (env:En) (S:Sto):Prop where
  ex:∃o ls tail,Dr sc o∧tail.length=nt∧env=front++tail∧S=o::(T++[.lst (ls.map Leg.d)])∧LegsUpTo names top n ls∧(n≠0→ls≠[])
theorem len4 {α:Type} {l:List α} (h:l.length=4):∃a b c d,l=[a,b,c,d]:=by
  match l,h with
  | [a,b,c,d],_=>exact ⟨a,b,c,d,rfl⟩
theorem len9 {α:Type} {l:List α} (h:l.length=9):∃a b c d e f g i j,l=[a,b,c,d,e,f,g,i,j]:=by
  match l,h with
  | [a,b,c,d,e,f,g,i,j],_=>exact ⟨a,b,c,d,e,f,g,i,j,rfl⟩
/-- what stands as places are drawn -/
structure PlI (sc:List Int) (T:Sto) (pre:List Str) (acc:List D) (S:Sto):Prop where
  ex:∃o cs,Dr sc o∧S=o::T∧acc=(pre.zip cs).map bf∧cs.length=pre.length∧∀c∈cs,10≤c∧c≤300
theorem PlI.add {sc:List Int} {T:Sto} {pre:List Str} {cs:List Int} {o:O} {x:Str} {c:Int} (d:Dr sc o) (hc1:cs.length=pre.length) (hc2:∀c∈cs,10≤c∧c≤300) (hc:10≤c∧c≤300):PlI sc T (pre++[x]) ((pre.zip cs).map bf++[.tup [.str x,.int c]]) (o::T):=
  ⟨o,cs++[c],d,rfl,by rw[List.zip_append hc1.symm]; simp[bf],by simp[hc1],fun e he=>by
    rcases List.mem_append.mp he with he|he
    · exact hc2 e he
    · rw[List.mem_singleton.mp he]; exact hc⟩
/-- the shuttle's net -/
theorem sY {sc:List Int} {o:O} {T:Sto} {Q:D→Sto→Prop} {E:XV→Sto→Prop} (d:Dr sc o) (k:∀ps ls o' j,NetOk ps ls→Dr sc o'→Q (dH ps ls) (o'::(T++[j]))):Res.wp (c9 [.loc 0] (o::T)) Q E:=by
  unfold c9
  apply aW
  unfold iZ
  simp -dsimp
  refine aX d (by omega) (by omega) fun v o1 d1 a1 a2=>?_
  obtain ⟨n,rfl⟩:=Int.eq_ofNat_of_zero_le a1
  simp -dsimp
  rw[show eF [D.str (Str.ofString "aba"),D.str (Str.ofString "bcd"),D.str (Str.ofString "cad")] none (some (2+(n:Int)))=(six.take (2+n)).map D.str by
    rw[show (2+(n:Int))=((2+n:Nat):Int) by omega,oh]
    have:n=0∨n=1:=by omega
    rcases this with rfl|rfl<;>rfl]
  generalize hm:2+n=m
  have hm1:2≤m∧m≤6:=by omega
  obtain ⟨nn,hnn⟩:∃nn,nn=(six.take m).map D.str:=⟨_,rfl⟩
  rw[←hnn]
  have hln:(nn.length:Int)=m:=by rw[hnn,List.length_map,(fQ hm1.2).1]
  refine aX d1 (by omega) (by omega) fun v1 o2 d2 b1 b2=>?_
  simp -dsimp
  refine aX d2 (by omega) (by omega) fun v2 o3 d3 c1 c2=>?_
  simp -dsimp
  refine aX d3 (by omega) (by omega) fun v3 o4 d4 e1 e2=>?_
  simp -dsimp
  refine aX d4 (by omega) (by omega) fun v4 o5 d5 f1 f2=>?_
  obtain ⟨dd,hdd,ds,rfl,hds⟩:=pick (xs:=[.tup [.int 0,.int 1,.int 2,.int 3,.int 4,.int 5,.int 6],.tup [.int 1,.int 2,.int 5],.tup [.int v3]]) (v:=v4) f1 f2 (fun d=>∃ds,d=gu false ds∧DaysOk ds) (by
    intro d hd
    simp only[List.mem_cons,List.not_mem_nil,or_false] at hd
    rcases hd with rfl|rfl|rfl
    · exact ⟨[0,1,2,3,4,5,6],rfl,by simp,by decide +kernel,by decide +kernel⟩
    · exact ⟨[1,2,5],rfl,by simp,by decide +kernel,by decide +kernel⟩
    · exact ⟨[v3],rfl,.one e1 e2⟩)
  simp -dsimp [hdd]
  refine aX d5 (by omega) (by omega) fun v5 o6 d6 g1 g2=>?_
  have hs:bK (3+v5)=true:=dk (by omega)
  simp -dsimp [hs,fR]
  refine eU (f:=fun i:Nat=>D.int i) (List.range (3+v5).toNat) (fun pre _=>LegI sc T [some (.loc 0),some (.lst nn),some (.loc (T.length+1)),some (.int (20+10*v1)),some (.int (60+10*v2)),some (gu false ds)] (six.take m) 4 (10+3*pre.length) (2*pre.length)) (by simp) ⟨o6,[],[none,none,none,none],d6,rfl,rfl,rfl,.nil _ _ _,fun z=>absurd rfl z⟩ ?_ ?_
  · rintro pre k rest env S hpre ⟨o',ls,tail,dd',ht,rfl,rfl,hL,_⟩
    obtain ⟨x6,x7,x8,x9,rfl⟩:=len4 ht
    obtain ⟨rfl,hk⟩:=jp hpre
    have hl1:=hL.len
    refine ⟨_,rfl,?_⟩
    have hk7:pre.length<7:=by omega
    have hm0:eE (pre.length:Int) m=true∧eE (pre.length+1:Int) m=true:=by simp[eE]; omega
    obtain ⟨i,hi⟩:∃i:Int,i=(pre.length:Int) % m:=⟨_,rfl⟩
    obtain ⟨j,hj⟩:∃j:Int,j=((pre.length:Int)+1) % m:=⟨_,rfl⟩
    have hi1:0≤i∧i<m:=by rw[hi]; exact ⟨Int.emod_nonneg _ (by omega),Int.emod_lt_of_pos _ (by omega)⟩
    have hj1:0≤j∧j<m:=by rw[hj]; exact ⟨Int.emod_nonneg _ (by omega),Int.emod_lt_of_pos _ (by omega)⟩
    have hij:i≠j:=by rw[hi,hj]; exact fun z=>wW (by omega) 1 (by omega) (by omega) z.symm
    have ei:atI nn i=some (.str (nm i)):=by rw[hnn]; exact uG hm1.2 hi1.1 hi1.2
    have ej:atI nn j=some (.str (nm j)):=by rw[hnn]; exact uG hm1.2 hj1.1 hj1.2
    have hgk:bT (60+10*v2) pre.length=true:=sC (by omega)
    have hll:ls.length<1000000:=by omega
    simp -dsimp [hln,hm0,←hi,←hj,ei,ej,hgk,bn,bD,hll]
    have hd9:DaysOk ds:=hds
    obtain ⟨A,hA⟩:∃A:Leg,A=⟨10+3*pre.length,nm i,nm j,300+(60+10*v2)*pre.length,20+10*v1,false,ds,100+pre.length⟩:=⟨_,rfl⟩
    have ok1:lD (six.take m) ⟨10+3*pre.length,nm i,nm j,300+(60+10*v2)*pre.length,20+10*v1,false,ds,100+pre.length⟩:=by
      have:(60+10*v2)*(pre.length:Int)≤150*6:=Int.mul_le_mul (by omega) (by omega) (by omega) (by omega)
      have:0≤(60+10*v2)*(pre.length:Int):=Int.mul_nonneg (by omega) (by omega)
      exact ⟨⟨by simp; omega,by simp; omega⟩,iD hm1.2 hi1.1 hi1.2,iD hm1.2 hj1.1 hj1.2,uH hi1.1 (by omega) hj1.1 (by omega) hij,⟨by simp; omega,by simp; omega⟩,⟨by simp; omega,by simp; omega⟩,hds.ne,hds.lt,hds.bd,⟨by simp; omega,by simp; omega⟩,⟨by simp only; omega,by simp only; omega⟩⟩
    rw[←hA] at ok1
    have hL1:=LegsUpTo.add (t':=11+3*pre.length) (n':=2*pre.length+1) hL ok1 (by simp[hA]) (by simp[hA]) (by omega) (by simp[hA]; omega)
    refine aX dd' (by omega) (by omega) fun w1 o7 d7 p1 p2=>?_
    simp -dsimp
    refine og (fun hw=>?_) (fun hw=>?_)
    · simp -dsimp [bn,hgk]
      refine aX d7 (by omega) (by omega) fun w2 o8 d8 q1 q2=>?_
      have hll1:ls.length+1<1000000:=by omega
      simp -dsimp [bD,hll1]
      obtain ⟨B,hB⟩:∃B:Leg,B=⟨11+3*pre.length,nm j,nm i,300+(60+10*v2)*pre.length,20+10*v1+10*w2,false,ds,77⟩:=⟨_,rfl⟩
      have ok2:lD (six.take m) ⟨11+3*pre.length,nm j,nm i,300+(60+10*v2)*pre.length,20+10*v1+10*w2,false,ds,77⟩:=by
        have:(60+10*v2)*(pre.length:Int)≤150*6:=Int.mul_le_mul (by omega) (by omega) (by omega) (by omega)
        have:0≤(60+10*v2)*(pre.length:Int):=Int.mul_nonneg (by omega) (by omega)
        exact ⟨⟨by simp; omega,by simp; omega⟩,iD hm1.2 hj1.1 hj1.2,iD hm1.2 hi1.1 hi1.2,uH hj1.1 (by omega) hi1.1 (by omega) hij.symm,⟨by simp; omega,by simp; omega⟩,⟨by simp; omega,by simp; omega⟩,hds.ne,hds.lt,hds.bd,⟨by simp,by simp⟩,⟨by simp only; omega,by simp only; omega⟩⟩
      rw[←hB] at ok2
      have hL2:=LegsUpTo.add (t':=10+3*(pre.length+1:Nat)) (n':=2*(pre.length+1)) hL1 ok2 (by simp[hB]) (by simp[hB]; omega) (by omega) (by simp[hB]; omega)
      exact ⟨o8,ls++[A]++[B],[_,_,_,_],d8,rfl,rfl,by simp[hA,hB,Leg.d],by simpa using hL2,by simp⟩
    · simp -dsimp
      exact ⟨o7,ls++[A],[_,_,_,_],d7,rfl,rfl,by simp[hA,Leg.d],by simpa using hL1.mono (t':=10+3*(pre.length+1:Nat)) (n':=2*(pre.length+1)) (by omega) (by omega),by simp⟩
  · rintro env S ⟨o',ls,tail,dd',ht,rfl,rfl,hL,hne⟩
    obtain ⟨x6,x7,x8,x9,rfl⟩:=len4 ht
    simp -dsimp
    have hn2:nn.length≤1000000:=by omega
    refine jV (f:=D.str) (six.take m) (fun pre _=>PlI sc (T++[.lst (ls.map Leg.d)]) pre) hnn ⟨o',[],dd',rfl,rfl,rfl,nofun⟩ ?_ ?_
    · rintro pre x rest acc S hp ⟨o1,cs,dd1,rfl,rfl,hc1,hc2⟩
      refine ⟨_,rfl,?_⟩
      simp -dsimp
      refine aX dd1 (by omega) (by omega) fun w2 o8 d8 q1 q2=>?_
      simp -dsimp
      have:=congrArg List.length hp
      simp[(fQ hm1.2).1] at this
      exact ⟨by omega,.add d8 hc1 hc2 (by omega)⟩
    · rintro acc S ⟨o1,cs,dd1,rfl,rfl,hc1,hc2⟩
      simp -dsimp [mH]
      have hpos:0<(3+v5).toNat:=by omega
      refine k ((six.take m).zip cs) ls o1 (.lst (ls.map Leg.d)) (qw hL hm1 (by simp; omega) (hne fun z=>?_) ?_ ?_) dd1
      · simp at z
        omega
      · rw[List.map_fst_zip (by omega)]
      · intro p hp
        exact hc2 _ (List.of_mem_zip hp).2
/-- days drawn one by one -/
structure DyI (sc:List Int) (T:Sto) (k:Nat) (acc:List D) (S:Sto):Prop where
  ex:∃(o:O) (ds:List Int),Dr sc o∧S=o::T∧acc=ds.map D.int∧ds.Pairwise (·<·)∧(∀d∈ds,0≤d∧d<k)∧ds.length≤k
/-- days drawn -/
structure DyR (sc:List Int) (T:Sto) (d:D) (S:Sto):Prop where
  ex:∃o db ds,d=gu db ds∧S=o::T∧Dr sc o∧DaysOk ds
/-- the net that is drawn -/
theorem wp_net {sc:List Int} {o:O} {T:Sto} {Q:D→Sto→Prop} {E:XV→Sto→Prop} (d:Dr sc o) (k:∀ps ls o' j,NetOk ps ls→Dr sc o'→Q (dH ps ls) (o'::(T++[j]))):Res.wp (gJ [.loc 0] (o::T)) Q E:=by
  unfold gJ
  apply aW
  unfold oD
  simp -dsimp
  refine aX d (by omega) (by omega) fun v o1 d1 a1 a2=>?_
  simp -dsimp
  refine og (fun hv=>?_) (fun hv=>?_)
  · simp -dsimp
    exact sY d1 fun ps ls o' j h dd=>by rw[tq]; exact k ps ls o' j h dd
  simp -dsimp
  clear a1 a2 hv v d o
  refine aX d1 (by omega) (by omega) fun v o2 d2 a1 a2=>?_
  obtain ⟨n,rfl⟩:=Int.eq_ofNat_of_zero_le a1
  simp -dsimp
  rw[show eF [D.str (Str.ofString "aba"),D.str (Str.ofString "bcd"),D.str (Str.ofString "cad"),D.str (Str.ofString "dub"),D.str (Str.ofString "eli"),D.str (Str.ofString "fra")] none (some (2+(n:Int)))=(six.take (2+n)).map D.str by
    rw[show (2+(n:Int))=((2+n:Nat):Int) by omega,oh,List.map_take]; rfl]
  generalize hm:2+n=m
  have hm1:2≤m∧m≤6:=by omega
  obtain ⟨nn,hnn⟩:∃nn,nn=(six.take m).map D.str:=⟨_,rfl⟩
  rw[←hnn]
  have hln:(nn.length:Int)=m:=by rw[hnn,List.length_map,(fQ hm1.2).1]
  refine jV (f:=D.str) (six.take m) (fun pre _=>PlI sc T pre) hnn ⟨o2,[],d2,rfl,rfl,rfl,nofun⟩ ?_ ?_
  · rintro pre x rest acc S hp ⟨o3,cs,d3,rfl,rfl,hc1,hc2⟩
    refine ⟨_,rfl,?_⟩
    simp -dsimp
    refine aX d3 (by omega) (by omega) fun w1 o4 d4 p1 p2=>?_
    simp -dsimp
    refine aX d4 (by omega) (by omega) fun w2 o5 d5 q1 q2=>?_
    obtain ⟨dd,hdd,c,rfl,hc⟩:=pick (xs:=[.int 30,.int 10,.int 60,.int (10+w1)]) (v:=w2) q1 q2 (fun d=>∃c,d=.int c∧10≤c∧c≤300) (by
      intro d hd
      simp only[List.mem_cons,List.not_mem_nil,or_false] at hd
      rcases hd with rfl|rfl|rfl|rfl
      · exact ⟨_,rfl,by omega,by omega⟩
      · exact ⟨_,rfl,by omega,by omega⟩
      · exact ⟨_,rfl,by omega,by omega⟩
      · exact ⟨_,rfl,by omega,by omega⟩)
    simp -dsimp [hdd]
    have:=congrArg List.length hp
    simp[(fQ hm1.2).1] at this
    exact ⟨by omega,.add d5 hc1 hc2 hc⟩
  rintro acc S ⟨o3,cs,d3,rfl,rfl,hc1,hc2⟩
  have hps1:((six.take m).zip cs).map (·.1)=six.take m:=List.map_fst_zip (by omega)
  have hps2:∀p∈(six.take m).zip cs,10≤p.2∧p.2≤300:=fun p hp=>hc2 _ (List.of_mem_zip hp).2
  generalize (six.take m).zip cs=ps at hps1 hps2
  clear hc1 hc2 cs
  simp -dsimp
  refine aX d3 (by omega) (by omega) fun w1 o4 d4 p1 p2=>?_
  obtain ⟨dd,hdd,w2,rfl,hw2⟩:=pick (xs:=[.int 6,.int 13]) (v:=w1) p1 p2 (fun d=>∃c,d=.int c∧6≤c∧c≤13) (by
      intro d hd
      simp only[List.mem_cons,List.not_mem_nil,or_false] at hd
      rcases hd with rfl|rfl
      · exact ⟨_,rfl,by omega,by omega⟩
      · exact ⟨_,rfl,by omega,by omega⟩)
  simp -dsimp [hdd]
  refine aX d4 (by omega) (by omega) fun w3 o5 d5 q1 q2=>?_
  have hs:bK (2+w3)=true:=dk (by omega)
  simp -dsimp [hs,fR]
  refine eU (f:=fun i:Nat=>D.int i) (List.range (2+w3).toNat) (fun pre _=>LegI sc T [some (.loc 0),some (.lst nn),some (.tpn (ps.map bf)),some (.loc (T.length+1))] (six.take m) 9 (100+7*pre.length) (2*pre.length)) (by simp) ⟨o5,[],[none,none,none,none,none,none,none,none,none],d5,rfl,rfl,rfl,.nil _ _ _,fun z=>absurd rfl z⟩ ?_ ?_
  · rintro pre k rest env S hpre ⟨o6,ls,tail,d6,ht,rfl,rfl,hL,_⟩
    obtain ⟨x4,x5,x6,x7,x8,x9,x10,x11,x12,rfl⟩:=len9 ht
    obtain ⟨rfl,hk⟩:=jp hpre
    have hl1:=hL.len
    refine ⟨_,rfl,?_⟩
    have hk7:pre.length<14:=by omega
    simp -dsimp [hln]
    refine aX d6 (by omega) (by omega) fun i o7 d7 i1 i2=>?_
    simp -dsimp [hln]
    refine aX d7 (by omega) (by omega) fun w4 o8 d8 r1 r2=>?_
    have hcm:eE (i+1+w4) m=true:=by simp[eE]; omega
    obtain ⟨j,hj⟩:∃j:Int,j=(i+1+w4) % m:=⟨_,rfl⟩
    have hj1:0≤j∧j<m:=by rw[hj]; exact ⟨Int.emod_nonneg _ (by omega),Int.emod_lt_of_pos _ (by omega)⟩
    have hij:i≠j:=by
      rw[hj]
      intro z
      refine wW (k:=i) (m:=m) (by omega) (1+w4) (by omega) (by omega) ?_
      rw[Int.emod_eq_of_lt i1 (by omega),←Int.add_assoc]; exact z.symm
    have ei:atI nn i=some (.str (nm i)):=by rw[hnn]; exact uG hm1.2 i1 i2
    have ej:atI nn j=some (.str (nm j)):=by rw[hnn]; exact uG hm1.2 hj1.1 hj1.2
    simp -dsimp [hln,hcm,←hj]
    clear hcm hj w4 r1 r2
    refine aX d8 (by omega) (by omega) fun w4 o9 d9 s1 s2=>?_
    simp -dsimp
    refine aX d9 (by omega) (by omega) fun w5 o10 d10 s3 s4=>?_
    simp -dsimp
    refine aX d10 (by omega) (by omega) fun w6 o11 d11 s5 s6=>?_
    simp -dsimp
    refine aX d11 (by omega) (by omega) fun w7 o12 d12 s7 s8=>?_
    obtain ⟨dd,hdd,out,rfl,hout⟩:=pick (xs:=[.int (60*w4),.int (300+10*w5),.int w6]) (v:=w7) s7 s8 (fun d=>∃c,d=.int c∧0≤c∧c<1440) (by
      intro d hd
      simp only[List.mem_cons,List.not_mem_nil,or_false] at hd
      rcases hd with rfl|rfl|rfl
      · exact ⟨_,rfl,by omega,by omega⟩
      · exact ⟨_,rfl,by omega,by omega⟩
      · exact ⟨_,rfl,by omega,by omega⟩)
    simp -dsimp [hdd]
    clear hdd w4 s1 s2 w5 s3 s4 w6 s5 s6 w7 s7 s8 d1 d2 d3 d4 d5 d6 d7 d8 d9 d10 d11
    refine aX d12 (by omega) (by omega) fun w4 o13 d13 s1 s2=>?_
    simp -dsimp
    refine aX d13 (by omega) (by omega) fun w5 o14 d14 s3 s4=>?_
    simp -dsimp
    refine aX d14 (by omega) (by omega) fun w6 o15 d15 s5 s6=>?_
    obtain ⟨dd,hdd,long,rfl,hlong⟩:=pick (xs:=[.int 60,.int (20+10*w4),.int (20+w5)]) (v:=w6 / 4) (by omega) (by simp; omega) (fun d=>∃c,d=.int c∧20≤c∧c≤900) (by
      intro d hd
      simp only[List.mem_cons,List.not_mem_nil,or_false] at hd
      rcases hd with rfl|rfl|rfl
      · exact ⟨_,rfl,by omega,by omega⟩
      · exact ⟨_,rfl,by omega,by omega⟩
      · exact ⟨_,rfl,by omega,by omega⟩)
    simp -dsimp [hdd,fR]
    clear hdd w4 s1 s2 w5 s3 s4 w6 s5 s6
    refine jV (f:=fun i:Nat=>D.int i) (List.range 7) (fun pre2 _=>DyI sc (T++[.lst (ls.map Leg.d)]) pre2.length) (by rfl) ⟨o15,[],d15,rfl,rfl,.nil,nofun,by simp⟩ ?_ ?_
    · rintro pre2 k2 rest2 acc2 S2 hp2 ⟨p1,ds,e1,rfl,rfl,y1,y2,y3⟩
      obtain ⟨rfl,hk2⟩:=jp hp2
      refine ⟨_,rfl,?_⟩
      simp -dsimp
      refine aX e1 (by omega) (by omega) fun w4 p2 e2 s1 s2=>?_
      by_cases hw4:0<w4
      · simp -dsimp [hw4]
        refine ⟨by omega,p2,ds++[(pre2.length:Int)],e2,rfl,by simp,?_,?_,by simp; omega⟩
        · rw[List.pairwise_append]
          exact ⟨y1,by simp,fun a ha b hb=>by rw[List.mem_singleton.mp hb]; exact (y2 a ha).2⟩
        · intro d hd
          rcases List.mem_append.mp hd with hd|hd
          · have:=y2 d hd; simp; omega
          · rw[List.mem_singleton.mp hd]; simp; omega
      · simp -dsimp [hw4]
        exact ⟨p2,ds,e2,rfl,rfl,y1,fun d hd=>by have:=y2 d hd; omega,by omega⟩
    rintro acc2 S2 ⟨p1,ds0,e1,rfl,rfl,y1,y2,y3⟩
    simp at y2 y3
    simp -dsimp
    refine cV (Q:=DyR sc (T++[.lst (ls.map Leg.d)])) ?_ ?_
    · cases ds0 with
      | nil=>
        simp -dsimp
        refine aX e1 (by omega) (by omega) fun w4 p2 e2 s1 s2=>?_
        simp -dsimp
        exact ⟨p2,false,[w4],rfl,rfl,e2,.one s1 s2⟩
      | cons a b=>
        simp -dsimp
        exact ⟨p1,true,a::b,rfl,rfl,e1,by simp,y1,fun d hd=>by have:=y2 d hd; omega⟩
    clear y1 y2 y3 e1 p1
    rintro dd S2 ⟨p2,db,ds,rfl,rfl,e2,hds⟩
    simp -dsimp
    refine aX e2 (by omega) (by omega) fun w4 o13 d13 s1 s2=>?_
    simp -dsimp
    refine aX d13 (by omega) (by omega) fun w5 o14 d14 s3 s4=>?_
    simp -dsimp
    refine aX d14 (by omega) (by omega) fun w6 o15 d15 s5 s6=>?_
    obtain ⟨dd,hdd,fare,rfl,hfare⟩:=pick (xs:=[.int 100,.int (1+w4),.int (1+w5)]) (v:=w6) (by omega) (by simp; omega) (fun d=>∃c,d=.int c∧1≤c∧c≤100000) (by
      intro d hd
      simp only[List.mem_cons,List.not_mem_nil,or_false] at hd
      rcases hd with rfl|rfl|rfl
      · exact ⟨_,rfl,by omega,by omega⟩
      · exact ⟨_,rfl,by omega,by omega⟩
      · exact ⟨_,rfl,by omega,by omega⟩)
    have hll:ls.length<1000000:=by omega
    simp -dsimp [hdd,ei,ej,bn,bD,hll]
    clear hdd w4 s1 s2 w5 s3 s4 w6 s5 s6 e2 d12 d13 d14
    refine aX d15 (by omega) (by omega) fun w4 o16 d16 s1 s2=>?_
    obtain ⟨A,hA⟩:∃A:Leg,A=⟨100+7*pre.length,nm i,nm j,out,long,db,ds,fare⟩:=⟨_,rfl⟩
    have ok1:lD (six.take m) A:=by
      rw[hA]
      exact ⟨⟨by simp; omega,by simp; omega⟩,iD hm1.2 i1 i2,iD hm1.2 hj1.1 hj1.2,uH i1 (by omega) hj1.1 (by omega) hij,hout,hlong,hds.ne,hds.lt,hds.bd,hfare,⟨by simp only; omega,by simp only; omega⟩⟩
    have hL1:=LegsUpTo.add (t':=103+7*pre.length) (n':=2*pre.length+1) hL ok1 (by simp[hA]) (by simp[hA]) (by omega) (by simp[hA]; omega)
    simp -dsimp
    refine og (fun hw=>?_) (fun hw=>?_)
    · have hll1:ls.length+1<1000000:=by omega
      simp -dsimp [ei,ej,bn,bD,hll1]
      obtain ⟨B,hB⟩:∃B:Leg,B=⟨103+7*pre.length,nm j,nm i,(out+long+60) % 1440,long,db,ds,fare⟩:=⟨_,rfl⟩
      have ok2:lD (six.take m) B:=by
        rw[hB]
        exact ⟨⟨by simp; omega,by simp; omega⟩,iD hm1.2 hj1.1 hj1.2,iD hm1.2 i1 i2,uH hj1.1 (by omega) i1 (by omega) hij.symm,⟨Int.emod_nonneg _ (by omega),Int.emod_lt_of_pos _ (by omega)⟩,hlong,hds.ne,hds.lt,hds.bd,hfare,⟨by simp only; omega,by simp only; omega⟩⟩
      have hL2:=LegsUpTo.add (t':=100+7*(pre.length+1:Nat)) (n':=2*(pre.length+1)) hL1 ok2 (by simp[hB]) (by simp[hB]; omega) (by omega) (by simp[hB]; omega)
      exact ⟨o16,ls++[A]++[B],[_,_,_,_,_,_,_,_,_],d16,rfl,rfl,by simp[hA,hB,Leg.d],by simpa using hL2,by simp⟩
    · simp -dsimp
      exact ⟨o16,ls++[A],[_,_,_,_,_,_,_,_,_],d16,rfl,rfl,by simp[hA,Leg.d],by simpa using hL1.mono (t':=100+7*(pre.length+1:Nat)) (n':=2*(pre.length+1)) (by omega) (by omega),by simp⟩
  · rintro env S ⟨o6,ls,tail,d6,ht,rfl,rfl,hL,hne⟩
    obtain ⟨x4,x5,x6,x7,x8,x9,x10,x11,x12,rfl⟩:=len9 ht
    have hne:ls≠[]:=hne (by simp; omega)
    simp -dsimp
    refine aX d6 (by omega) (by omega) fun w4 o16 d16 s1 s2=>?_
    have hok:=qw hL hm1 (by simp; omega) hne hps1 hps2
    by_cases hw:w4=0
    · simp -dsimp [hw,mH]
      exact k ps ls o16 (.lst (ls.map Leg.d)) hok d16
    · simp -dsimp [hw,mH]
      have:=k ps ls.reverse o16 (.lst (ls.map Leg.d)) ⟨hok.names,hok.ch,fun l hl=>hok.legs l (List.mem_reverse.mp hl),by rw[List.map_reverse]; exact (List.reverse_perm _).symm.nodup hok.nd,by simpa using hne,by simpa using hok.len,by simpa using hok.few,fun l hl=>hok.n99 l (List.mem_reverse.mp hl)⟩ d16
      unfold dH at this
      rw[List.map_reverse] at this
      exact this
end DL
namespace DL
open PySem PySem.Spec PyProof.Rows L2 LamX
theorem aT {α:Type} {r:Res α} {v:α} {S0:Sto} (h:Res.wp r (fun a S'=>a=v∧S'=S0) NoE):r=.ok v S0:=by
  cases r with
  | ok a S=>rw[fJ] at h; obtain ⟨rfl,rfl⟩:=h; rfl
  | exc e S=>simp at h
  | stuck=>simp at h
theorem ar {τ:Type} {g:MG} {tc:MT} {m:ME} {w:En} {f:τ→D} {ds:List D} {S:Sto} {Q:List D→Sto→Prop} {E:XV→Sto→Prop} (xs:List τ) (p:τ→Bool) (v:τ→D) (e:ds=xs.map f) (hl:xs.length≤1000000)
    (hx:∀x∈xs,∃e,g (f x) w S=some (e,S)∧tc e S=.ok (p x) S∧(p x=true→m e S=.ok (v x) S)) (q:Q ((xs.filter p).map v) S):Res.wp (dE g tc m w ds [] S) Q E:=by
  rw[e,r9 xs p v hl hx,fJ]; exact q
theorem cH {α:Type} (xs:List α):xs.filter (fun _=>true)=xs:=List.filter_eq_self.mpr fun _ _=>rfl
@[simp] theorem fAll_map {τ:Type} (S:Sto) (xs:List τ) (g:τ→Bool):j3 S [.lst (xs.map fun x=>.bool (g x))]=some (.bool (xs.all g)):=by
  have:=iz S (xs.map g)
  rw[List.map_map] at this
  rw[show (xs.map fun x=>D.bool (g x))=xs.map (D.bool∘g) from rfl,this,List.all_map]
  rfl
@[simp] theorem cut_1 {α:Type} (xs:List α):eF xs (some 1) none=xs.tail:=by
  rw[show (1:Int)=((1:Nat):Int) from rfl,vz,List.drop_one]
theorem qx {τ:Type} (f:τ→D) (xs:List τ):eQ (xs.map f) (xs.map f).tail=(xs.zip xs.tail).map fun p=>D.tup [f p.1,f p.2]:=by
  rw[←List.map_tail,zip_map]
theorem lt_zip {xs:List Int} (h:xs.Pairwise (·<·)):∀p∈xs.zip xs.tail,p.1<p.2:=by
  induction xs with
  | nil=>simp
  | cons a xs ih=>
    cases xs with
    | nil=>simp
    | cons b xs=>
      intro p hp
      rw[List.tail_cons,List.zip_cons_cons] at hp
      rw[List.pairwise_cons] at h
      rcases List.mem_cons.mp hp with rfl|hp
      · exact h.1 b List.mem_cons_self
      · exact ih h.2 p hp
/-- a whole number between two -/
def dD (x:D) (a b:Int):Bool:=match x with
  | .int i=>decide (a≤i)&&decide (i≤b)
  | _=>false
@[simp] theorem known_int:eA "int"=true:=rfl
@[simp] theorem known_bool:eA "bool"=true:=rfl
@[simp] theorem known_str:eA "str"=true:=rfl
@[simp] theorem yq:eA "tuple"=true:=rfl
@[simp] theorem known_list:eA "list"=true:=rfl
@[simp] theorem known_dict:eA "dict"=true:=rfl
@[simp] theorem tyo_int (S:Sto) (i:Int):g9 S (.int i)=some "int":=rfl
@[simp] theorem tyo_bool (S:Sto) (i:Bool):g9 S (.bool i)=some "bool":=rfl
@[simp] theorem tyo_str (S:Sto) (i:Str):g9 S (.str i)=some "str":=rfl
@[simp] theorem tyo_tup (S:Sto) (i:List D):g9 S (.tup i)=some "tuple":=rfl
@[simp] theorem tyo_tpn (S:Sto) (i:List D):g9 S (.tpn i)=some "tuple":=rfl
@[simp] theorem tyo_lst (S:Sto) (i:List D):g9 S (.lst i)=some "list":=rfl
@[simp] theorem tyo_none (S:Sto):g9 S .none=some "NoneType":=rfl
@[simp] theorem tyo_day (S:Sto) (b:Bool) (l:List Int):g9 S (gu b l)=some "tuple":=by cases b<;>rfl
@[simp] theorem isTy_at (a b:String):isTy a b=(a == b||(a == "bool"&&b == "int")):=rfl
theorem fm {S:Sto} {x:D} {t:String} (a b:Int) (h:g9 S x=some t):aO [x,.int a,.int b] S=.ok (.bool (dD x a b)) S:=by
  have st:∀t:String,t≠"int"→t≠"bool"→g9 S x=some t→dD x a b=false→aO [x,.int a,.int b] S=.ok (.bool (dD x a b)) S:=by
    intro t h1 h2 h3 h4
    simp[aO,eI,cK,h3,h1,h2,h4]
  cases x with
  | int i=>
    by_cases h1:a≤i<;>by_cases h2:i≤b<;>simp[aO,eI,cK,dD,h1,h2]
  | bool i=>simp[aO,eI,cK,dD]
  | none=>cases h; exact st _ (by decide) (by decide) rfl rfl
  | str=>cases h; exact st _ (by decide) (by decide) rfl rfl
  | tup=>cases h; exact st _ (by decide) (by decide) rfl rfl
  | tpn=>cases h; exact st _ (by decide) (by decide) rfl rfl
  | lst=>cases h; exact st _ (by decide) (by decide) rfl rfl
  | loc l=>
    simp only[g9] at h
    refine st t ?_ ?_ (by simp only[g9]; exact h) rfl
    · rintro rfl; split at h<;>simp at h
    · rintro rfl; split at h<;>simp at h
  | ty=>cases h
  | ro=>cases h
  | glo=>cases h
  | adr=>cases h
  | clo=>cases h
  | exn=>cases h
@[simp] theorem num_int (S:Sto) (i a b:Int):aO [.int i,.int a,.int b] S=.ok (.bool (decide (a≤i)&&decide (i≤b))) S:=fm a b rfl
theorem yJ {S:Sto} {b:Bool} {ds:List Int} (h:DaysOk ds) (hl:ds.length≤1000000):fN [gu b ds] S=.ok (.bool true) S:=by
  have hne:∃a l,ds=a::l:=by
    cases ds with
    | nil=>exact absurd rfl h.ne
    | cons a l=>exact ⟨a,l,rfl⟩
  have hp:ci (ds.map D.int) []=false:=by
    obtain ⟨a,l,rfl⟩:=hne
    simp
  have h1:bI S (gu b ds)=some (.items (ds.map D.int)):=by cases b<;>simp[gu]
  have h2:dok 60 (gu b ds)=true:=by
    have:=Enc.int.all
    cases b<;>simp[gu]
  have h3:peq (.tup (ds.map D.int)) (.tup [])=false:=by simp[hp]
  have h32:dok 60 (.tup (ds.map D.int))=true:=by simp
  obtain ⟨d',e',hd'⟩:=sB (d:=gu b ds) (xs:=ds.map D.int) (by cases b<;>simp[gu]) (some 1) none
  have h4:view0 S (gu b ds)=gu b ds:=by cases b<;>rfl
  have h5:vt d'=.tup (ds.map D.int).tail:=by rw[←cut_1]; rcases hd' with rfl|rfl<;>rfl
  apply aT
  unfold fN
  apply aW
  unfold mS
  simp -dsimp [cK,h2,h3,h1,hp,e',h4,h5,qx]
  refine ar (f:=D.int) ds (fun _=>true) (fun i=>.bool (decide (0≤i)&&decide (i≤6))) rfl hl (fun x hx=>⟨_,rfl,rfl,fun _=>by simp⟩) ?_
  rw[cH]
  have ha:(ds.all fun i=>decide (0≤i)&&decide (i≤6))=true:=by
    rw[List.all_eq_true]
    intro x hx
    simp[h.bd x hx]
  simp -dsimp [ha,e',h4,h5,qx]
  refine ar (f:=fun p:Int × Int=>D.tup [.int p.1,.int p.2]) (ds.zip ds.tail) (fun _=>true) (fun p=>.bool (decide (p.1<p.2))) rfl (by simp; omega) (fun x hx=>⟨_,rfl,rfl,fun _=>by simp⟩) ?_
  rw[cH]
  have hb:((ds.zip ds.tail).all fun p=>decide (p.1<p.2))=true:=by
    rw[List.all_eq_true]
    intro p hp
    simp[lt_zip h.lt p hp]
  simp -dsimp [hb]
end DL
namespace DL
open PySem PySem.Spec PyProof.Rows L2 LamX
theorem oH {τ:Type} {ps:List τ} {pre rest:List (τ × Nat)} {x:τ × Nat} (h:pre++x::rest=ps.zipIdx):x.2=pre.length∧ps=pre.map (·.1)++x.1::rest.map (·.1):=by
  have h1:=congrArg (fun l=>l.map (·.1)) h
  have h2:=congrArg (fun l=>l[pre.length]?) h
  simp at h1 h2
  refine ⟨?_,h1.symm⟩
  obtain ⟨a,ha,e⟩:=Option.map_eq_some_iff.mp h2.symm
  rw[←e]
def lR:List Nat:=(("abcdefghijklmnopqrstuvwxyz":Str)).cps.toList
/-- a text of so many lR -/
def jq (x:Str) (a b:Int):Bool:=(decide (a≤x.length)&&decide ((x.length:Int)≤b))&&x.cps.toList.all (fun c=>decide (c∈lR))
theorem yK {S:Sto} {x:Str} (a b:Int) (hx:x.length≤1000000):gI [.str x,.int a,.int b] S=.ok (.bool (jq x a b)) S:=by
  have hl:cg S [.str x]=some (.int x.length):=by simp[cg,hx]
  have hi:bI S (.str x)=some (.items (x.cps.toList.map fun c=>D.str ⟨#[c]⟩)):=by simp[bI,hx,g4]
  apply aT
  unfold gI
  apply aW
  unfold oA
  by_cases h1:a≤x.length
  · by_cases h2:(x.length:Int)≤b
    · simp -dsimp [cK,hl,h1,h2,hi]
      refine ar (f:=fun c=>D.str ⟨#[c]⟩) x.cps.toList (fun _=>true) (fun c=>.bool (decide (c∈lR))) rfl (by simpa [Str.length] using hx) (fun c hc=>⟨[some (.str x),some (.int a),some (.int b),some (.str ⟨#[c]⟩)],rfl,rfl,fun _=>?_⟩) ?_
      · simp[dIn,lR]
      · rw[cH]
        simp -dsimp
        simp[jq,h1,h2]
    · simp -dsimp [cK,hl,h1,h2]
      simp[jq,h1,h2]
  · simp -dsimp [cK,hl,h1]
    simp[jq,h1]
theorem eP:∀x∈six,jq x 3 3=true∧x.length≤1000000∧PyData.strOk x=true:=by decide +kernel
theorem ul {xs:List D} {a:D} (h:∀z∈xs,peq z a=false):(xs.any fun z=>peq z a)=false:=by
  rw[List.any_eq_false]
  intro z hz
  rw[h z hz]; simp
theorem oJ {S:Sto} {a:D} {xs:List D} (h1:dok 60 a=true) (h2:∀x∈xs,dok 59 x=true) (h:∀z∈xs,peq z a=false):dIn S a (.lst xs)=some false:=by
  simp only[dIn,qC,h1,ng,List.all_eq_true.mpr h2,ul h]
  rfl
theorem wX {S:Sto} {a:D} {xs:List D} (h1:dok 60 a=true) (h2:∀x∈xs,dok 59 x=true) (h:∃z∈xs,peq z a=true):dIn S a (.lst xs)=some true:=by
  have:(xs.any fun z=>peq z a)=true:=List.any_eq_true.mpr h
  simp only[dIn,qC,h1,ng,List.all_eq_true.mpr h2,this]
  rfl
theorem wY {S:Sto} {p:Str × Int} {pre:List (Str × Int)} {A:D} (hn:p.1∈six) (hpre:∀q∈pre,q.1∈six) (hnot:p.1∉pre.map (·.1)) (hc:10≤p.2∧p.2≤300) (hl:pre.length≤1000000) (hA:A=.tup (pre.map bf)∨A=.tpn (pre.map bf)):fO [bf p,A] S=.ok (.bool true) S:=by
  have hw:=eP _ hn
  have hi:bI S A=some (.items (pre.map bf)):=by rcases hA with rfl|rfl<;>simp
  apply aT
  unfold fO
  apply aW
  unfold mU
  simp -dsimp [cK,bf,yK,hw,hi]
  refine ar (f:=bf) pre (fun _=>true) (fun q=>.str q.1) (by rfl) hl (fun q hq=>⟨_,rfl,rfl,fun _=>rfl⟩) ?_
  rw[cH]
  have:=oJ (S:=S) (a:=.str p.1) (xs:=pre.map fun q=>D.str q.1) (by simp[hw]) (fun x hx=>by
    obtain ⟨q,hq,rfl⟩:=List.mem_map.mp hx
    simp[eP _ (hpre q hq)]) (fun z hz=>by
    obtain ⟨q,hq,rfl⟩:=List.mem_map.mp hz
    simp only[xp,decide_eq_false_iff_not]
    exact fun e=>hnot (List.mem_map.mpr ⟨q,hq,e⟩))
  simp -dsimp [this,hc]
theorem leg_eq {S:Sto} {l:Leg} {pre:List Leg} {names:List Str} {A:D} (h:lD names l) (hns:∀x∈names,x∈six) (hnot:l.num∉pre.map (·.num)) (hl:pre.length≤1000000) (hd:l.days.length≤1000000) (hA:A=.tup (pre.map Leg.d)∨A=.tpn (pre.map Leg.d)):hY [l.d,A,.lst (names.map D.str)] S=.ok (.bool true) S:=by
  have hi:bI S A=some (.items (pre.map Leg.d)):=by rcases hA with rfl|rfl<;>simp
  have hws:=eP _ (hns _ h.s)
  have hwg:=eP _ (hns _ h.g)
  apply aT
  unfold hY
  apply aW
  unfold qo
  have hnum:1≤l.num∧l.num≤9999:=h.num
  simp -dsimp [cK,Leg.d,hnum,hi]
  refine ar (f:=Leg.d) pre (fun _=>true) (fun q=>.int q.num) (by rfl) hl (fun q hq=>⟨_,rfl,rfl,fun _=>by simp[Leg.d]⟩) ?_
  rw[cH]
  have h1:=oJ (S:=S) (a:=.int l.num) (xs:=pre.map fun q=>D.int q.num) (by simp) (fun x hx=>by
    obtain ⟨q,hq,rfl⟩:=List.mem_map.mp hx
    simp) (fun z hz=>by
    obtain ⟨q,hq,rfl⟩:=List.mem_map.mp hz
    simp only[xo,decide_eq_false_iff_not]
    exact fun e=>hnot (List.mem_map.mpr ⟨q,hq,e⟩))
  have hnd:∀x∈names.map D.str,dok 59 x=true:=fun x hx=>by
    obtain ⟨q,hq,rfl⟩:=List.mem_map.mp hx
    simp[eP _ (hns q hq)]
  have h2:=wX (S:=S) (a:=.str l.start) (xs:=names.map D.str) (by simp[hws]) hnd ⟨.str l.start,List.mem_map.mpr ⟨_,h.s,rfl⟩,by simp⟩
  have h3:=wX (S:=S) (a:=.str l.goal) (xs:=names.map D.str) (by simp[hwg]) hnd ⟨.str l.goal,List.mem_map.mpr ⟨_,h.g,rfl⟩,by simp⟩
  have h4:=h.ne
  have h5:=yJ (S:=S) (b:=l.db) ⟨h.dne,h.dlt,h.dbd⟩ hd
  have h6:l.out≤1439:=by have:=h.out; omega
  simp -dsimp [cK,h1,h2,h3,h4,h5,h6,hws,hwg,h.out,h.long,h.fare]
theorem ia:∀ {ds:List Int} {lo:Int},ds.Pairwise (·<·)→(∀d∈ds,lo≤d∧d≤6)→lo≤7→(ds.length:Int)≤7 - lo
  | [],lo,_,_,h=>by simp; omega
  | a::ds,lo,h1,h2,h=>by
    rw[List.pairwise_cons] at h1
    have ha:=h2 a List.mem_cons_self
    have:=ia (lo:=a+1) h1.2 (fun d hd=>⟨by have:=h1.1 d hd; omega,(h2 d (List.mem_cons_of_mem _ hd)).2⟩) (by omega)
    simp
    omega
theorem iE {ds:List Int} (h1:ds.Pairwise (·<·)) (h2:∀d∈ds,0≤d∧d≤6):ds.length≤7:=by
  have:=ia h1 h2 (by omega)
  omega
theorem NetOk.sub {ps:List (Str × Int)} {ls:List Leg} (h:NetOk ps ls):∀x∈ps.map (·.1),x∈six:=by
  obtain ⟨n,_,_,e⟩:=h.names
  rw[e]
  exact fun x hx=>List.mem_of_mem_take hx
theorem NetOk.pnd {ps:List (Str × Int)} {ls:List Leg} (h:NetOk ps ls):(ps.map (·.1)).Nodup:=by
  obtain ⟨n,_,h6,e⟩:=h.names
  rw[e]
  exact (fQ h6).2
theorem NetOk.plen {ps:List (Str × Int)} {ls:List Leg} (h:NetOk ps ls):2≤ps.length∧ps.length≤6:=by
  obtain ⟨n,h2,h6,e⟩:=h.names
  have:=congrArg List.length e
  rw[List.length_map,(fQ h6).1] at this
  omega
theorem yL {S:Sto} {ps:List (Str × Int)} {ls:List Leg} (h:NetOk ps ls):fP [dH ps ls] S=.ok .none S:=by
  have hpl:=h.plen
  have hll:=h.len
  apply aT
  unfold fP
  apply aW
  unfold mV
  have hp:ci (ps.map bf) []=false:=by
    cases ps with
    | nil=>simp at hpl
    | cons a l=>simp
  have hpk:dok 60 (.tpn (ps.map bf))=true:=by
    simp only[uX,List.all_map,List.all_eq_true]
    intro p hp
    simp[bf,eP _ (h.sub p.1 (List.mem_map.mpr ⟨p,hp,rfl⟩))]
  have hpk2:dok 60 (.tup (ps.map bf))=true:=hpk
  simp -dsimp [dH,cK,hp,hpk2,mI]
  refine eU (f:=fun p:(Str × Int) × Nat=>D.tup [.int (p.2:Nat),bf p.1]) ps.zipIdx (fun _ _ env S'=>S'=S∧∃x3 x4 x5 x6 x7 x8,env=[some (dH ps ls),some (.tpn (ps.map bf)),some (.tpn (ls.map Leg.d)),x3,x4,x5,x6,x7,x8]) rfl ⟨rfl,_,_,_,_,_,_,rfl⟩ ?_ ?_
  · rintro pre x rest env S' hpre ⟨rfl,x3,x4,x5,x6,x7,x8,rfl⟩
    obtain ⟨e1,e2⟩:=oH hpre
    refine ⟨_,rfl,?_⟩
    obtain ⟨d',c1,c2⟩:=sB (d:=.tpn (ps.map bf)) (xs:=ps.map bf) (.inr rfl) none (some (x.2:Nat))
    have hq:ps.take x.2=pre.map (·.1):=by
      rw[e1,e2,List.take_left' (by simp)]
    rw[oh,←List.map_take,hq] at c2
    have hm:x.1∈ps:=by rw[e2]; simp
    have hnd:=h.pnd
    rw[e2] at hnd
    have hx12:¬((x.2:Int)=12):=by
      have:=congrArg List.length e2
      simp at this
      omega
    have hpe:=wY (S:=S') (p:=x.1) (pre:=pre.map (·.1)) (A:=d') (h.sub _ (List.mem_map.mpr ⟨_,hm,rfl⟩)) (fun q hq=>h.sub _ (List.mem_map.mpr ⟨q,by rw[e2]; exact List.mem_append_left _ hq,rfl⟩)) (fun z=>by
      rw[List.map_append,List.nodup_append] at hnd
      exact hnd.2.2 _ z _ (by simp) rfl) (h.ch _ hm) (by have:=congrArg List.length e2; simp at this ⊢; omega) c2
    simp -dsimp [hx12,c1,hpe]
  · rintro env S' ⟨rfl,x3,x4,x5,x6,x7,x8,rfl⟩
    simp -dsimp [cK]
    refine ar (f:=bf) ps (fun _=>true) (fun q=>.str q.1) (by rfl) (by omega) (fun q hq=>⟨_,rfl,rfl,fun _=>rfl⟩) ?_
    rw[cH]
    have e:(ps.map fun q=>D.str q.1)=(ps.map (·.1)).map D.str:=by rw[List.map_map]; rfl
    rw[e]
    obtain ⟨nn,hnn⟩:∃nn,nn=(ps.map (·.1)).map D.str:=⟨_,rfl⟩
    rw[←hnn]
    simp -dsimp [mI]
    refine eU (f:=fun p:Leg × Nat=>D.tup [.int (p.2:Nat),p.1.d]) ls.zipIdx (fun _ _ env S''=>S''=S'∧∃x3 x4 x6 x7 x8,env=[some (dH ps ls),some (.tpn (ps.map bf)),some (.tpn (ls.map Leg.d)),x3,x4,some (.lst nn),x6,x7,x8]) rfl ⟨rfl,_,_,_,_,_,rfl⟩ ?_ ?_
    · rintro pre x rest env S'' hpre ⟨rfl,x3,x4,x6,x7,x8,rfl⟩
      obtain ⟨e1,e2⟩:=oH hpre
      refine ⟨_,rfl,?_⟩
      obtain ⟨d',c1,c2⟩:=sB (d:=.tpn (ls.map Leg.d)) (xs:=ls.map Leg.d) (.inr rfl) none (some (x.2:Nat))
      have hq:ls.take x.2=pre.map (·.1):=by
        rw[e1,e2,List.take_left' (by simp)]
      rw[oh,←List.map_take,hq] at c2
      have hm:x.1∈ls:=by rw[e2]; simp
      have hnd:=h.nd
      rw[e2] at hnd
      have hx12:¬((x.2:Int)=60):=by
        have:=congrArg List.length e2
        simp at this
        omega
      have hok:=h.legs _ hm
      have hpe:=leg_eq (S:=S'') (l:=x.1) (pre:=pre.map (·.1)) (A:=d') hok h.sub (fun z=>by
        rw[List.map_append,List.nodup_append] at hnd
        exact hnd.2.2 _ z _ (by simp) rfl) (by have:=congrArg List.length e2; simp at this ⊢; omega) (by have:=iE hok.dlt hok.dbd; omega) c2
      rw[←hnn] at hpe
      simp -dsimp [hx12,c1,hpe]
    · rintro env S'' ⟨rfl,x3,x4,x6,x7,x8,rfl⟩
      exact ⟨rfl,rfl⟩
end DL
namespace DL
open PySem PySem.Spec PyProof.Rows L2 LamX
theorem pI (ps:List (Str × Int)):eD (ps.map bf)=some (ps.map fun p=>(.str p.1,.int p.2)):=by
  induction ps with
  | nil=>rfl
  | cons p ps ih=>simp[eD,rf,bf,ih]
theorem uI {acc:List (D × D)} {k v:D} (h:∀p∈acc,cJ p.1≠cJ k):gR false acc k v=acc++[(k,v)]:=by
  unfold gR
  rw[if_neg]
  simp only[List.any_eq_true,not_exists,not_and]
  intro p hp
  simp[keq,h p hp]
theorem me:∀(ps acc:List (D × D)),(ps.map fun p=>cJ p.1).Nodup→(∀p∈acc,∀q∈ps,cJ p.1≠cJ q.1)→dj acc ps=acc++ps
  | [],acc,_,_=>by simp[dj]
  | q::ps,acc,nd,h=>by
    rw[List.map_cons,List.nodup_cons] at nd
    unfold dj
    rw[uI fun p hp=>h p hp q List.mem_cons_self,me ps _ nd.2 fun p hp r hr=>?_]
    · simp
    · rcases List.mem_append.mp hp with hp|hp
      · exact h p hp r (List.mem_cons_of_mem _ hr)
      · rw[List.mem_singleton.mp hp]
        exact fun e=>nd.1 (List.mem_map.mpr ⟨r,hr,e.symm⟩)
/-- {k: v for ..} by new keys -/
theorem um {τ:Type} {g:MG} {tc:MT} {mk mv:ME} {w:En} {f:τ→D} {ds:List D} {S:Sto} {Q:List (D × D)→Sto→Prop} {E:XV→Sto→Prop} (xs:List τ) (k v:τ→D) (e:ds=xs.map f) (hl:xs.length≤1000000) (nd:(xs.map fun x=>cJ (k x)).Nodup)
    (hx:∀x∈xs,∃e,g (f x) w S=some (e,S)∧tc e S=.ok true S∧mk e S=.ok (k x) S∧mv e S=.ok (v x) S∧cB false (k x)=true) (q:Q (xs.map fun x=>(k x,v x)) S):Res.wp (eT g tc mk mv w ds [] S) Q E:=by
  subst e
  have loop:∀(rest:List τ) (acc:List (D × D)),(∀x∈rest,x∈xs)→acc.length+rest.length≤1000000→(rest.map fun x=>cJ (k x)).Nodup→(∀p∈acc,∀x∈rest,cJ p.1≠cJ (k x))→eT g tc mk mv w (rest.map f) acc S=.ok (acc++rest.map fun x=>(k x,v x)) S:=by
    intro rest
    induction rest with
    | nil=>intro acc _ _ _ _; simp[eT]
    | cons x rest ih=>
      intro acc hm hl nd hn
      obtain ⟨e,e1,e2,e3,e4,e5⟩:=hx x (hm x List.mem_cons_self)
      rw[List.length_cons] at hl
      rw[List.map_cons,List.nodup_cons] at nd
      rw[List.map_cons]
      unfold eT j5
      have ha:acc.length<1000000:=by omega
      simp only[e1,e2,e3,e4,e5,bO,if_true,ha,and_self]
      rw[uI fun p hp=>hn p hp x List.mem_cons_self,ih _ (fun y hy=>hm y (List.mem_cons_of_mem _ hy)) (by simp; omega) nd.2 fun p hp y hy=>?_]
      · simp
      · rcases List.mem_append.mp hp with hp|hp
        · exact hn p hp y (List.mem_cons_of_mem _ hy)
        · rw[List.mem_singleton.mp hp]
          exact fun e=>nd.1 (List.mem_map.mpr ⟨y,hy,e.symm⟩)
  rw[loop xs [] (fun _ h=>h) (by simpa using hl) nd nofun,fJ]
  simpa using q
/-- what a new net lays -/
def jr (n:Nat) (ps:List (Str × Int)) (ls:List Leg):Sto:=[.ins "Net" [("changes",.loc (n+1)),("legs",.loc (n+2))],.dct false (ps.map fun p=>(.str p.1,.int p.2)),.dct false (ls.map fun x=>(.int x.num,x.d))]
theorem mf {τ:Type} {xs:List τ} {k:τ→D} {κ:Type} {i:τ→κ} (h:(xs.map i).Nodup) (hk:∀x y,cJ (k x)=cJ (k y)→i x=i y):(xs.map fun x=>cJ (k x)).Nodup:=by
  induction xs with
  | nil=>simp
  | cons x xs ih=>
    rw[List.map_cons,List.nodup_cons] at h ⊢
    refine ⟨fun z=>?_,ih h.2⟩
    obtain ⟨y,hy,e⟩:=List.mem_map.mp z
    exact h.1 (List.mem_map.mpr ⟨y,hy,hk _ _ e⟩)
theorem pJ {S:Sto} {ps:List (Str × Int)} {ls:List Leg} (h:NetOk ps ls):bY [.loc S.length,dH ps ls] (S++[.ins "Net" []])=.ok .none (S++jr S.length ps ls):=by
  have hpl:=h.plen
  have hll:=h.len
  apply aT
  unfold bY
  apply aW
  unfold jl
  have hg:∀x:O,(S++[x])[S.length]?=some x:=fun x=>by simp
  have hg2:∀x y:O,(S++[x,y])[S.length]?=some x:=fun x y=>by simp
  have hg3:∀x y z:O,(S++[x,y,z])[S.length]?=some x:=fun x y z=>by simp
  have hs2:∀x y z:O,(S++[x,y]).set S.length z=S++[z,y]:=fun x y z=>by rw[List.set_append_right _ _ (Nat.le_refl _)]; simp
  have hs3:∀x y u z:O,(S++[x,y,u]).set S.length z=S++[z,y,u]:=fun x y u z=>by rw[List.set_append_right _ _ (Nat.le_refl _)]; simp
  have hpa:dj [] (ps.map fun p=>(D.str p.1,D.int p.2))=ps.map fun p=>(D.str p.1,D.int p.2):=by
    have:=me (ps.map fun p=>(D.str p.1,D.int p.2)) [] (by
      rw[List.map_map]
      exact mf (k:=fun p:Str × Int=>D.str p.1) (i:=(·.1)) h.pnd fun x y e=>by simpa [cJ] using e) nofun
    simpa using this
  simp -dsimp [yL h]
  simp -dsimp [dH,pI,hpa]
  rw[if_pos (by omega)]
  simp -dsimp [hg2,hs2,gt]
  refine um (f:=Leg.d) ls (fun l=>.int l.num) Leg.d rfl (by omega) (mf (i:=(·.num)) h.nd fun x y e=>by simpa [cJ] using e) (fun x hx=>⟨_,rfl,rfl,by simp[Leg.d],by simp,rfl⟩) ?_
  simp -dsimp [hg3,hs3,gt,jr]
theorem kL {S:Sto} {ps:List (Str × Int)} {ls:List Leg}:NetAt (S++jr S.length ps ls) S.length ps ls:=
  ⟨⟨S.length+1,S.length+2,by simp[jr],by simp[jr],by simp[jr]⟩⟩
section
variable {S:Sto} {l:Nat} {ps:List (Str × Int)} {ls:List Leg} {r:aH}
theorem js (h:HasLeg ls r.2):cz false (ls.map fun x=>(.int x.num,x.d)) (.int r.2)=some (bR ls r.2).d:=by
  rw[qK,gX h]; rfl
theorem qy (N:pG S l ls) (h:HasLeg ls r.2):bP [.loc l,aE r] S=.ok (.int (av ls r)) S:=by
  obtain ⟨c,g,h1,h3⟩:=N.ex
  apply aT
  unfold bP
  apply aW
  unfold kr
  simp -dsimp [aE,h1,mG h3,js h]
  simp -dsimp [Leg.d,av]
theorem oK (N:NetAt S l ps ls) (h:HasLeg ls r.2):bP [.loc l,aE r] S=.ok (.int (av ls r)) S:=qy N.l h
theorem yM (N:pG S l ls) (h:HasLeg ls r.2):du [.loc l,aE r] S=.ok (.str (mZ ls r)) S:=by
  obtain ⟨c,g,h1,h3⟩:=N.ex
  apply aT
  unfold du
  apply aW
  unfold mR
  simp -dsimp [aE,h1,mG h3,js h]
  simp -dsimp [Leg.d,mZ]
theorem wZ (N:NetAt S l ps ls) (h:HasLeg ls r.2):du [.loc l,aE r] S=.ok (.str (mZ ls r)) S:=yM N.l h
theorem wc (N:pG S l ls) (h:HasLeg ls r.2):dF [.loc l,aE r] S=.ok (.str (i7 ls r)) S:=by
  obtain ⟨c,g,h1,h3⟩:=N.ex
  apply aT
  unfold dF
  apply aW
  unfold ku
  simp -dsimp [aE,h1,mG h3,js h]
  simp -dsimp [Leg.d,i7]
theorem uo (N:NetAt S l ps ls) (h:HasLeg ls r.2):dF [.loc l,aE r] S=.ok (.str (i7 ls r)) S:=wc N.l h
theorem yN (N:pG S l ls) (h:HasLeg ls r.2):fM [.loc l,aE r] S=.ok (.int (oG ls r)) S:=by
  obtain ⟨c,g,h1,h3⟩:=N.ex
  apply aT
  unfold fM
  apply aW
  unfold mQ
  simp -dsimp [aE,h1,mG h3,js h]
  simp -dsimp [Leg.d,oG]
theorem uq (N:pG S l ls) (h:HasLeg ls r.2):cq [.loc l,aE r] S=.ok (.int (e6 ls r)) S:=by
  obtain ⟨c,g,h1,h3⟩:=N.ex
  apply aT
  unfold cq
  apply aW
  unfold jg
  simp -dsimp [h1,qy N h,yN N h]
  simp[e6]
theorem sZ (N:NetAt S l ps ls) (h:HasLeg ls r.2):cq [.loc l,aE r] S=.ok (.int (e6 ls r)) S:=uq N.l h
theorem yO (N:pG S l ls) {d:Int} {n:Int} (hh:HasLeg ls n) (hd:∀l∈ls,l.days.length≤1000):fL [.loc l,.int d,.int n] S=.ok (.bool (decide (0≤d∧d≤60∧d % 7∈(bR ls n).days))) S:=by
  obtain ⟨c,g,h1,h3⟩:=N.ex
  apply aT
  unfold fL
  apply aW
  unfold mP
  have lk:cz false (ls.map fun x=>(.int x.num,x.d)) (.int n)=some (bR ls n).d:=by
    rw[qK,gX hh]; rfl
  have hin:dIn S (.int n) (.loc g)=some true:=by rcases ik h3 with h3|h3<;>simp[dIn,h3,lk]
  have hin2:dIn S (.int (d % 7)) (gu (bR ls n).db (bR ls n).days)=some (decide (d % 7∈(bR ls n).days)):=by
    simp only[dIn,oE]
    have:(((bR ls n).days.map D.int).any fun z=>peq z (.int (d % 7)))=decide (d % 7∈(bR ls n).days):=by
      rw[Bool.eq_iff_iff]; simp[List.any_eq_true]
    rw[this]
    simp
  by_cases c1:0≤d
  · by_cases c2:d≤60
    · simp -dsimp [c1,c2,h1,hin]
      simp -dsimp [h1,mG h3,lk]
      simp -dsimp [Leg.d,hin2]
      simp[c1,c2]
    · simp -dsimp [c1,c2]
  · simp -dsimp [c1]
end
end DL
namespace DL
open PySem PySem.Spec PyProof.Rows L2 LamX
section
variable {S:Sto} {ps:List (Str × Int)} {ls:List Leg} {r:aH}
theorem uJ {env:En} {g:MG} {tc:MT} {m:ME} {Q:List D→Sto→Prop} {E:XV→Sto→Prop} (nd:(ls.map (·.num)).Nodup) (hl:ls.length≤1000000) (h:HasLeg ls r.2)
    (hx:∀x∈ls,∃e,g x.d env S=some (e,S)∧tc e S=.ok (decide (x.num=r.2)) S∧m e S=.ok x.d S) (q:Q [(bR ls r.2).d] S):Res.wp (dE g tc m env (ls.map Leg.d) [] S) Q E:=by
  refine ar (f:=Leg.d) ls (fun l=>decide (l.num=r.2)) Leg.d rfl hl (fun x h=>?_) ?_
  · obtain ⟨e,e1,e2,e3⟩:=hx x h
    exact ⟨e,e1,e2,fun _=>e3⟩
  · rw[uk nd h]; exact q
theorem i8 (nd:(ls.map (·.num)).Nodup) (hl:ls.length≤1000000) (h:HasLeg ls r.2):cr [dH ps ls,aE r] S=.ok (bR ls r.2).d S:=by
  apply aT
  unfold cr
  apply aW
  unfold oB
  simp -dsimp [dH]
  refine uJ nd hl h ?_ ?_
  · exact fun x hx=>⟨_,rfl,by simp[Leg.d,aE],by simp⟩
  simp -dsimp
theorem gY (nd:(ls.map (·.num)).Nodup) (hl:ls.length≤1000000) (h:HasLeg ls r.2):bq [dH ps ls,aE r] S=.ok (.int (av ls r)) S:=by
  apply aT
  unfold bq
  apply aW
  unfold k9
  simp -dsimp [aE]
  simp -dsimp [dH]
  refine uJ nd hl h ?_ ?_
  · exact fun x hx=>⟨_,rfl,by simp[Leg.d,aE],by simp⟩
  simp -dsimp
  simp -dsimp [Leg.d,av]
  omega
theorem m8 (nd:(ls.map (·.num)).Nodup) (hl:ls.length≤1000000) (h:HasLeg ls r.2):dZ [dH ps ls,aE r] S=.ok (.int (e6 ls r)) S:=by
  apply aT
  unfold dZ
  apply aW
  unfold jn
  simp -dsimp [gY nd hl h,i8 nd hl h]
  simp -dsimp [Leg.d,e6,oG]
/-- (leave,number,day) of what goes on n days from a first one on -/
def af (ls:List Leg) (first:Int) (n:Nat):List (Int × Int × Int):=(List.range n).flatMap fun i:Nat=>(ls.filter fun l=>decide ((first+i) % 7∈l.days)).map fun l=>(1440*(first+i)+l.out,l.num,first+i)
theorem mj (ls:List Leg) (first:Int) (n:Nat):af ls first (n+1)=af ls first n++(ls.filter fun l=>decide ((first+n) % 7∈l.days)).map fun l=>(1440*(first+n)+l.out,l.num,first+n):=by
  unfold af
  rw[List.range_succ,List.flatMap_append]; simp
theorem lT (ls:List Leg) (first:Int) (n:Nat):(af ls first n).length≤n*ls.length:=by
  induction n with
  | zero=>simp[af]
  | succ n ih=>
    rw[mj,List.length_append,List.length_map,Nat.succ_mul]
    have:=List.length_filter_le (fun l:Leg=>decide ((first+n) % 7∈l.days)) ls
    omega
/-- all rides of some days,by the law -/
def aw (ls:List Leg) (first:Int) (n:Nat):List aH:=((af ls first n).mergeSort le3).map fun t=>(t.2.2,t.2.1)
theorem lE (ls:List Leg) (first:Int) (n:Nat):(aw ls first n).length≤n*ls.length:=by
  unfold aw
  rw[List.length_map,List.length_mergeSort]
  exact lT ls first n
theorem mem_raw {ls:List Leg} {first:Int} {n:Nat} {t:Int × Int × Int}:t∈af ls first n↔∃i:Nat,i<n∧∃l∈ls,(first+i) % 7∈l.days∧t=(1440*(first+i)+l.out,l.num,first+i):=by
  unfold af
  rw[List.mem_flatMap]
  constructor
  · rintro ⟨i,hi,ht⟩
    obtain ⟨l,hl,rfl⟩:=List.mem_map.mp ht
    rw[List.mem_filter] at hl
    exact ⟨i,List.mem_range.mp hi,l,hl.1,by simpa using hl.2,rfl⟩
  · rintro ⟨i,hi,l,hl,hd,rfl⟩
    exact ⟨i,List.mem_range.mpr hi,List.mem_map.mpr ⟨l,List.mem_filter.mpr ⟨hl,by simpa using hd⟩,rfl⟩⟩
theorem dG {ls:List Leg} (nd:(ls.map (·.num)).Nodup) {first:Int} {n:Nat} {r:aH}:r∈aw ls first n↔first≤r.1∧r.1<first+n∧HasLeg ls r.2∧r.1 % 7∈(bR ls r.2).days:=by
  unfold aw
  rw[List.mem_map]
  constructor
  · rintro ⟨t,ht,rfl⟩
    obtain ⟨i,hi,l,hl,hd,rfl⟩:=mem_raw.mp (List.mem_mergeSort.mp ht)
    refine ⟨by simp; omega,by simp; omega,⟨l,hl,rfl⟩,?_⟩
    simp only[iB nd hl]
    exact hd
  · rintro ⟨h1,h2,h3,h4⟩
    refine ⟨(1440*r.1+(bR ls r.2).out,r.2,r.1),List.mem_mergeSort.mpr (mem_raw.mpr ⟨(r.1 - first).toNat,by omega,bR ls r.2,gK h3,?_,?_⟩),rfl⟩
    · rw[show first+((r.1 - first).toNat:Int)=r.1 by omega]; exact h4
    · rw[show first+((r.1 - first).toNat:Int)=r.1 by omega,oF h3]
/-- what stands as rides are found -/
structure RdI (S:Sto) (acc:List (Int × Int × Int)) (d0 d1 d2:D) (P:Option D→Prop) (env:En) (S':Sto):Prop where
  ex:∃x4 x5 x6 x7,P x4∧env=[some d0,some d1,some d2,some (.loc S.length),x4,x5,x6,x7]∧S'=S++[.lst (acc.map trD)]
theorem yP {S:Sto} {x:Int} {b:Bool} {ds:List Int}:dIn S (.int x) (gu b ds)=some (decide (x∈ds)):=by
  simp only[dIn,oE]
  have:((ds.map D.int).any fun z=>peq z (.int x))=decide (x∈ds):=by
    rw[Bool.eq_iff_iff]; simp[List.any_eq_true]
  rw[this]
  simp
theorem wd {first last:Int} {Q:D→Sto→Prop} {E:XV→Sto→Prop} (hl:ls.length≤60) (hd:∀l∈ls,l.days.length≤1000) (h0:0≤first∧first≤61) (h1:last≤1000000) (h2 : -1000000≤last)
    (q:∀j,Q (.lst ((aw ls first (min 60 last+1 - first).toNat).map aE)) (S++[j])):Res.wp (eK [dH ps ls,.int first,.int last] S) Q E:=by
  unfold eK
  apply aW
  unfold lB
  have s1:bK first=true:=dk (by omega)
  have s2:bK (min 60 last+1)=true:=dk (by omega)
  obtain ⟨n,hn⟩:∃n,n=(min 60 last+1 - first).toNat:=⟨_,rfl⟩
  rw[←hn] at q
  simp -dsimp [s1,s2,←hn,fR]
  refine eU (f:=fun i:Nat=>D.int (first+i)) (List.range n) (fun pre _=>RdI S (af ls first pre.length) (dH ps ls) (.int first) (.int last) fun _=>True) rfl ⟨_,_,_,_,trivial,rfl,by simp[af]⟩ ?_ ?_
  · rintro pre i rest env S' hp ⟨x4,x5,x6,x7,_,rfl,rfl⟩
    obtain ⟨rfl,hi⟩:=jp hp
    refine ⟨_,rfl,?_⟩
    simp -dsimp [dH]
    refine eU (f:=Leg.d) ls (fun pre2 _=>RdI S (af ls first pre.length++(pre2.filter fun l=>decide ((first+pre.length) % 7∈l.days)).map fun l=>(1440*(first+pre.length)+l.out,l.num,first+pre.length)) (dH ps ls) (.int first) (.int last) fun x=>x=some (.int (first+pre.length))) rfl ?_ ?_ ?_
    · exact ⟨_,_,_,_,rfl,rfl,by simp⟩
    · rintro pre2 l rest2 env S' hp2 ⟨y4,y5,y6,y7,rfl,rfl,rfl⟩
      have hlen:(af ls first pre.length++(pre2.filter fun l=>decide ((first+pre.length) % 7∈l.days)).map fun l=>(1440*(first+pre.length)+l.out,l.num,first+(pre.length:Int))).length<1000000:=by
        have a:=lT ls first pre.length
        have b:=List.length_filter_le (fun l:Leg=>decide ((first+pre.length) % 7∈l.days)) pre2
        have c:=congrArg List.length hp2
        have e:pre.length*ls.length≤1000062 / 1000*60:=Nat.mul_le_mul (by omega) hl
        rw[List.length_append,List.length_map]
        rw[List.length_append,List.length_cons] at c
        omega
      refine ⟨_,rfl,?_⟩
      simp -dsimp [Leg.d,yP]
      by_cases hg:(first+pre.length) % 7∈l.days
      · rw[List.length_append,List.length_map] at hlen
        simp -dsimp [hg,bn,bD]
        rw[if_pos (by simpa using hlen)]
        simp -dsimp
        exact ⟨_,_,_,_,rfl,rfl,by simp[hg,trD]⟩
      · simp -dsimp [hg]
        exact ⟨_,_,_,_,rfl,rfl,by simp[hg]⟩
    · rintro env S' ⟨y4,y5,y6,y7,rfl,rfl,rfl⟩
      exact ⟨_,_,_,_,trivial,rfl,by rw[List.length_append,List.length_singleton,mj]⟩
  · rintro env S' ⟨x4,x5,x6,x7,_,rfl,rfl⟩
    have hlen:(af ls first n).length≤100000:=by
      have a:=lT ls first n
      have e:n*ls.length≤61*60:=Nat.mul_le_mul (by omega) hl
      omega
    have hso:=j8 (S:=S++[.lst ((af ls first n).map trD)]) (d:=.loc S.length) (af ls first n) trD le3 (sD (by simp)) (fun x=>by simp[trD]) (fun x y=>by simp[trD]) (fun x=>⟨_,_,rfl⟩) v0 (by omega)
    rw[List.length_range]
    simp -dsimp [hso]
    refine ar (f:=trD) ((af ls first n).mergeSort le3) (fun _=>true) (fun t=>.tup [.int t.2.2,.int t.2.1]) rfl (by rw[List.length_mergeSort]; omega) (fun x hx=>⟨_,rfl,rfl,fun _=>by simp⟩) ?_
    rw[cH]
    simp -dsimp
    have:=q (.lst ((af ls first n).map trD))
    unfold aw at this
    rw[List.map_map] at this
    exact this
end
end DL
namespace DL
open PySem PySem.Spec PyProof.Rows L2 LamX
/-- the second clause's walk,by an own filter and function -/
theorem i9 {τ:Type} {g:MG} {tc:MT} {m:ME} {w:En} {f:τ→D} {S:Sto} (p:τ→Bool) (v:τ→D):∀(xs:List τ) (acc:List D),acc.length+(xs.filter p).length≤1000000→
    (∀x∈xs,∃e,g (f x) w S=some (e,S)∧tc e S=.ok (p x) S∧(p x=true→m e S=.ok (v x) S))→fH (fC g tc m w) (xs.map f) acc S=.ok (acc++(xs.filter p).map v) S
  | [],acc,_,_=>by simp[fH]
  | x::xs,acc,hl,hx=>by
    obtain ⟨e,e1,e2,e3⟩:=hx x List.mem_cons_self
    rw[List.map_cons]
    unfold fH fC
    simp only[e1,e2,bO]
    have hy:∀y∈xs,∃e,g (f y) w S=some (e,S)∧tc e S=.ok (p y) S∧(p y=true→m e S=.ok (v y) S):=fun y hy=>hx y (List.mem_cons_of_mem _ hy)
    cases hp:p x with
    | false=>
      simp only[Bool.false_eq_true,if_false,bO]
      rw[List.filter_cons_of_neg (by simp[hp])] at hl
      have:=i9 p v xs acc hl hy
      unfold fC at this
      rw[this]
      simp[hp]
    | true=>
      rw[List.filter_cons_of_pos hp,List.length_cons] at hl
      have ha:acc.length<1000000:=by omega
      simp only[if_true,e3 hp,bO,ha]
      have:=i9 p v xs (acc++[v x]) (by simp; omega) hy
      unfold fC at this
      rw[this]
      simp[hp]
theorem se {τ:Type} (f k:τ→D) (xs:List τ) (le:τ→τ→Bool) (h:∀x∈xs,∀y∈xs,dle (k x) (k y)=le x y):iy (xs.map f) (xs.map k)=(xs.mergeSort le).map f:=by
  unfold iy
  have e:(xs.map f).zip (xs.map k)=xs.map fun x=>(f x,k x):=by
    rw[List.zip_map,List.zip_eq_zipWith]
    simp[List.zipWith_self,List.map_map]
  rw[e,←List.map_mergeSort (r:=le) (s:=fun a b:D × D=>dle a.2 b.2) (f:=fun x=>(f x,k x)) fun a ha b hb=>(h a ha b hb).symm]
  rw[List.map_map]
  rfl
theorem qz {τ:Type} {m mk:ME} {i:Nat} {env:En} {S S1:Sto} {d:D} (xs:List τ) (f k:τ→D) (le:τ→τ→Bool) (hm:m env S=.ok d S1) (hs:dU S1 d=some (xs.map f)) (hk:∀x∈xs,mk (env.set i (some (f x))) S1=.ok (k x) S1)
    (ho:eS (xs.map k)=true) (hl:xs.length≤1000000) (hle:∀x∈xs,∀y∈xs,dle (k x) (k y)=le x y):fz m i mk env S=.ok (.loc S1.length) (S1++[.lst ((xs.mergeSort le).map f)]):=by
  unfold fz
  rw[hm]
  simp only[Res.bind,hs]
  rw[mJ xs [] hk,bO]
  simp only[List.nil_append,ho,List.length_map,hl,and_self,if_true,se f k xs le hle]
section
variable {S:Sto} {l:Nat} {ps:List (Str × Int)} {ls:List Leg} {r:aH}
def k2D (t:Int × Int × Int):D:=.tup [.int t.1,.int t.2.1]
def rd2 (t:Int × Int × Int):D:=.tup [.int t.2.2,.int t.2.1]
theorem gZ (N:NetAt S l ps ls) (nd:(ls.map (·.num)).Nodup) (hl:ls.length≤60) (hd:∀l∈ls,l.days.length≤1000) {first last:Int} (h0:0≤first) (h1:first≤last) (h2:last≤60) :
    a7 [.loc l,.int first,.int last] S=.ok (.loc S.length) (S++[.lst ((aw ls first (last+1 - first).toNat).map aE)]):=by
  obtain ⟨n,hn⟩:∃n,n=(last+1 - first).toNat:=⟨_,rfl⟩
  rw[←hn]
  have hraw:(af ls first n).length≤100000:=by
    have a:=lT ls first n
    have e:n*ls.length≤61*60:=Nat.mul_le_mul (by omega) hl
    omega
  obtain ⟨c,g,q1,q2,q3⟩:=N.ex
  have NL:pG S l ls:=N.l
  apply aT
  unfold a7
  apply aW
  unfold gm
  have s1:bK first=true:=dk (by omega)
  have s2:bK (last+1)=true:=dk (by omega)
  have hgl:g<S.length:=(List.getElem?_eq_some_iff.mp q3).1
  have hlg:l≠g:=fun z=>by subst z; rw[q1] at q3; cases q3
  obtain ⟨S',hS'⟩:∃S',S'=S.set g (.fdc false (ls.map fun x=>(.int x.num,x.d))):=⟨_,rfl⟩
  have p1:S'[l]?=some (.ins "Net" [("changes",.loc c),("legs",.loc g)]):=by rw[hS',List.getElem?_set_ne (Ne.symm hlg)]; exact q1
  have p3:S'[g]?=some (.fdc false (ls.map fun x=>(.int x.num,x.d))):=by rw[hS',List.getElem?_set_self hgl]
  have NL':pG S' l ls:=⟨⟨c,g,p1,by rw[p3]; rfl⟩⟩
  have back:S'.set g (.dct false (ls.map fun x=>(.int x.num,x.d)))=S:=by
    rw[hS',List.set_set]
    exact List.ext_getElem? fun i=>by
      by_cases hi:i=g
      · subst hi; rw[List.getElem?_set_self hgl,q3]
      · rw[List.getElem?_set_ne (Ne.symm hi)]
  have hfl:[]++(List.range n).flatMap (fun i:Nat=>(ls.filter fun x=>decide ((first+i) % 7∈x.days)).map fun x=>D.tup [.int (first+i),.int x.num])=(af ls first n).map rd2:=by
    simp[af,List.map_flatMap,rd2]
    rfl
  have hmem:∀t∈af ls first n,HasLeg ls t.2.1∧t.1=av ls (t.2.2,t.2.1):=fun t ht=>by
    obtain ⟨i,hi,x,hx,hdx,rfl⟩:=mem_raw.mp ht
    refine ⟨⟨x,hx,rfl⟩,?_⟩
    simp only[av,iB nd hx]
    omega
  have hsk:∀d1 d2 x4 x5 x6,fz (eV 3) 6 (cx (aC (cu "Net" "leave" 2 bP (eV 0) (aC (eV 6) (aJ))) (aC (aK fIx (eV 6) (eC (.int 1))) (aJ)))) [some (.loc l),d1,d2,some (.lst ((af ls first n).map rd2)),x4,x5,x6] S=.ok (.loc S.length) (S++[.lst (((af ls first n).mergeSort le3).map rd2)]):=by
    intro d1 d2 x4 x5 x6
    refine qz (S1:=S) (d:=.lst ((af ls first n).map rd2)) (af ls first n) rd2 k2D le3 (by simp) rfl (fun t ht=>?_) ?_ (by omega) ?_
    · obtain ⟨m1,m2⟩:=hmem t ht
      have e:=oK N (r:=(t.2.2,t.2.1)) m1
      simp only[aE] at e
      simp -dsimp [rd2,q1]
      rw[e]
      simp[k2D,m2]
    · unfold eS
      simp only[Bool.and_eq_true,List.all_eq_true,List.mem_map,forall_exists_index,and_imp,forall_apply_eq_imp_iff₂,Bool.or_eq_true]
      exact ⟨⟨fun x _=>(by simp[k2D]:dok 60 (k2D x)=true),fun x _ y _=>(by simp[k2D]:alk (k2D x) (k2D y)=true)⟩,.inl fun x _=>rfl⟩
    · intro a ha b hb
      obtain ⟨a1,a2⟩:=hmem a ha
      obtain ⟨b1,b2⟩:=hmem b hb
      rw[jZ,k2D,k2D,iM,bL,bL,fK,le3]
      rw[Bool.eq_iff_iff]
      by_cases c1:b.1=a.1
      · by_cases c2:b.2.1=a.2.1
        · have c3:a.2.2=b.2.2:=by
            rw[a2,b2] at c1
            simp only[av,c2] at c1
            omega
          simp[c1,c2,c3]
        · simp[c1,c2]; omega
      · simp[c1]; omega
  simp -dsimp [q1,uY q3,←hS',s1,s2]
  rw[oi (S1:=S') (ds:=(List.range n).map fun i:Nat=>D.int (first+i)) (by simp[s1,s2,←hn,fR])]
  rw[mK (f:=fun i:Nat=>D.int (first+i)) (g:=fun i:Nat=>(ls.filter fun x=>decide ((first+i) % 7∈x.days)).map fun x=>D.tup [.int (first+i),.int x.num]) (List.range n) [] ?_ ?_]
  · rw[hfl]
    simp -dsimp [back,-qL,hsk]
    unfold aw
    rw[List.map_map]
    rfl
  · rw[hfl,List.length_map]; omega
  · intro i hi acc ha
    unfold f7
    have hi2:=List.mem_range.mp hi
    have hit:bI S' (.loc g)=some (.items (ls.map fun x=>D.int x.num)):=by simp[bI,p3]
    simp -dsimp [p1,hit,nY]
    have hlen:acc.length+(ls.filter fun x=>decide ((first+(i:Int)) % 7∈x.days)).length≤1000000:=by simpa using ha
    refine i9 (f:=fun x:Leg=>D.int x.num) (fun x=>decide ((first+i) % 7∈x.days)) (fun x=>D.tup [.int (first+i),.int x.num]) ls acc hlen fun x hx=>⟨_,rfl,?_,fun _=>?_⟩
    · have e:=yO NL' (d:=first+i) (n:=x.num) ⟨x,hx,rfl⟩ hd
      rw[iB nd hx] at e
      have e2:(0≤first+(i:Int)∧first+(i:Int)≤60∧(first+(i:Int)) % 7∈x.days)↔(first+(i:Int)) % 7∈x.days:=⟨fun h=>h.2.2,fun h=>⟨by omega,by omega,h⟩⟩
      simp only[e2] at e
      simp[p1,e]
    · simp
end
end DL
namespace DL
open PySem PySem.Spec PyProof.Rows L2 LamX
def aM {α:Type} (f:List (aH × α)) (r:aH):Option α:=(f.find? fun p=>p.1=r).map (·.2)
theorem jA {α:Type} {f:List (aH × α)} {r:aH} {a:α} (h:aM f r=some a):(r,a)∈f:=by
  unfold aM at h
  obtain ⟨p,h1,rfl⟩:=Option.map_eq_some_iff.mp h
  have:=List.find?_some h1
  have e:p.1=r:=by simpa using this
  rw[←e]
  exact List.mem_of_find?_eq_some h1
theorem lookR_none {α:Type} {f:List (aH × α)} {r:aH}:aM f r=none↔r∉f.map (·.1):=by
  unfold aM
  rw[Option.map_eq_none_iff,List.find?_eq_none]
  constructor
  · intro h z
    obtain ⟨p,hp,rfl⟩:=List.mem_map.mp z
    exact h p hp (by simp)
  · intro h p hp z
    exact h (List.mem_map.mpr ⟨p,hp,by simpa using z⟩)
theorem uK (r:aH):e9 (aE r)=some [.inl r.1,.inl r.2]:=rfl
theorem iF (a b:aH):keq true (aE a) (aE b)=decide (a=b):=by
  show decide (e9 (aE a)=e9 (aE b))=_
  rw[uK,uK]
  rw[decide_eq_decide]
  simp only[Option.some.injEq,List.cons.injEq,Sum.inl.injEq,and_true]
  exact ⟨fun h=>Prod.ext h.1 h.2,fun h=>by rw[h]; exact ⟨rfl,rfl⟩⟩
@[simp] theorem bh (r:aH):cB true (aE r)=true:=rfl
theorem iQ {α:Type} (f:List (aH × α)) (v:α→D) (r:aH):cz true (f.map fun p=>(aE p.1,v p.2)) (aE r)=(aM f r).map v:=by
  unfold cz aM
  rw[List.find?_map,Option.map_map,Option.map_map]
  congr 1
  congr 1
  funext p
  simp only[Function.comp_apply,iF]
def iG {α:Type} (f:List (aH × α)) (r:aH) (a:α):List (aH × α):=if (f.any fun p=>p.1=r) then f.map fun p=>if p.1=r then (p.1,a) else p else f++[(r,a)]
theorem we {α:Type} (f:List (aH × α)) (v:α→D) (r:aH) (a:α):gR true (f.map fun p=>(aE p.1,v p.2)) (aE r) (v a)=((if (f.any fun p=>p.1=r) then f.map fun p=>if p.1=r then (p.1,a) else p else f++[(r,a)]).map fun p=>(aE p.1,v p.2)):=by
  unfold gR
  rw[List.any_map]
  have e:((fun p:D × D=>keq true p.1 (aE r))∘fun p:aH × α=>(aE p.1,v p.2))=fun p=>decide (p.1=r):=by
    funext p
    simp only[Function.comp_apply,iF]
  rw[e]
  split
  · rw[List.map_map,List.map_map]
    apply List.map_congr_left
    intro p _
    simp only[Function.comp_apply,iF]
    by_cases h:p.1=r<;>simp[h]
  · simp
end DL
namespace DL
open PySem PySem.Spec PyProof.Rows L2 LamX
abbrev RR:=List (aH × aH)
theorem ah {α:Type} (f:List (aH × α)) (r q:aH) (a:α):aM (iG f r a) q=if q=r then some a else aM f q:=by
  unfold aM iG
  by_cases h:(f.any fun p=>p.1=r)=true
  · rw[if_pos h]
    rw[List.find?_map,Option.map_map]
    have e:((fun p:aH × α=>decide (p.1=q))∘fun p=>if p.1=r then (p.1,a) else p)=fun p=>decide (p.1=q):=by
      funext p
      simp only[Function.comp_apply]
      split<;>rfl
    rw[e]
    by_cases hq:q=r
    · subst hq
      rw[if_pos rfl]
      obtain ⟨p,hp,hpr⟩:=List.any_eq_true.mp h
      have:(f.find? fun p=>decide (p.1=q)).isSome=true:=List.find?_isSome.mpr ⟨p,hp,hpr⟩
      obtain ⟨p',hp'⟩:=Option.isSome_iff_exists.mp this
      have h2:=List.find?_some hp'
      rw[hp']
      simp at h2
      simp[h2]
    · rw[if_neg hq]
      cases hf:f.find? fun p=>decide (p.1=q) with
      | none=>rfl
      | some p'=>
        have h2:=List.find?_some hf
        simp at h2
        simp[h2,hq]
  · rw[if_neg h,List.find?_append]
    by_cases hq:q=r
    · subst hq
      have hn:f.find? (fun p=>decide (p.1=q))=none:=by
        rw[List.find?_eq_none]
        intro p hp hpr
        exact h (List.any_eq_true.mpr ⟨p,hp,hpr⟩)
      rw[hn,if_pos rfl]
      simp
    · rw[if_neg hq]
      cases hf:f.find? fun p=>decide (p.1=q) with
      | none=>simp[Ne.symm hq]
      | some p'=>simp
/-- b: {ride: the one ahead of it},a: {ride: the one behind it}: alike -/
def Mtc (b a:RR):Prop:=∀y x,aM b y=some x↔aM a x=some y
def Edg (N:aH→List aH) (b:RR):Prop:=∀y x,aM b y=some x→y∈N x
/-- what closes a search -/
structure Cls (N:aH→List aH) (b:RR) (L R:aH→Prop):Prop where
  out:∀x,L x→∀y∈N x,R y
  back:∀y,R y→∃x,L x∧aM b y=some x
theorem Cls.keep {N:aH→List aH} {b b':RR} {L R:aH→Prop} (h:Cls N b L R) (k:∀y,R y→aM b' y=aM b y):Cls N b' L R:=⟨h.out,fun y hy=>by rw[k y hy]; exact h.back y hy⟩
/-- what a search that could not leaves -/
structure GrF (N:aH→List aH) (b:RR) (x:aH) (met met':List aH):Prop where
  sub:∀y∈met,y∈met'
  all:∀y∈N x,y∈met'
  cl:∀y∈met',y∉met→∃x',aM b y=some x'∧∀z∈N x',z∈met'
/-- in a search -/
structure GrI (N:aH→List aH) (b:RR) (pre met met':List aH):Prop where
  sub:∀y∈met,y∈met'
  all:∀y∈pre,y∈met'
  cl:∀y∈met',y∉met→∃x',aM b y=some x'∧∀z∈N x',z∈met'
/-- what a search that could leaves -/
structure GrT (N:aH→List aH) (b a:RR) (x:aH) (met:List aH) (b' a':RR):Prop where
  t1:∀y∈met,aM b' y=aM b y
  t2:∃y,aM a' x=some y∧y∉met
  t3:∀z,z≠x→(∀y,aM a z=some y→y∈met)→aM a' z=aM a z
  t4:∀y z,z≠x→(aM b' y=some z↔aM a' z=some y)
  t4x:∀y,aM b' y=some x↔(aM a' x=some y∨aM a x=some y)
  t5:∀z,(aM a' z).isSome=true↔((aM a z).isSome=true∨z=x)
  t6:Edg N b'
  t7:∀L R,Cls N b L R→¬L x∧∀y,R y→aM b' y=aM b y
  t8:∀y z,aM b' y=some z→aM b y=some z∨aM b y≠none∨z=x∨(aM a z).isSome=true
section
variable {N:aH→List aH} {b a:RR} {x y:aH} {met m0:List aH}
theorem GrI.start:GrI N b [] met met:=⟨fun _ h=>h,nofun,fun y h n=>absurd h n⟩
theorem GrI.old {pre:List aH} (h:GrI N b pre met m0) (hy:y∈m0):GrI N b (pre++[y]) met m0:=⟨h.sub,fun z hz=>(List.mem_append.mp hz).elim (h.all z) fun e=>by rw[List.mem_singleton.mp e]; exact hy,h.cl⟩
theorem GrI.fail {pre m1:List aH} {x1:aH} (h:GrI N b pre met m0) (hb:aM b y=some x1) (hf:GrF N b x1 (m0++[y]) m1):GrI N b (pre++[y]) met m1 where
  sub:=fun z hz=>hf.sub z (List.mem_append_left _ (h.sub z hz))
  all:=fun z hz=>(List.mem_append.mp hz).elim (fun e=>hf.sub z (List.mem_append_left _ (h.all z e))) fun e=>by
    rw[List.mem_singleton.mp e]
    exact hf.sub y (by simp)
  cl:=fun z hz hn=>by
    by_cases h0:z∈m0
    · obtain ⟨x',h1,h2⟩:=h.cl z h0 hn
      exact ⟨x',h1,fun w hw=>hf.sub w (List.mem_append_left _ (h2 w hw))⟩
    · by_cases e:z=y
      · subst e
        exact ⟨x1,hb,hf.all⟩
      · exact hf.cl z hz (by simp[h0,e])
theorem GrI.done {met':List aH} (h:GrI N b (N x) met met'):GrF N b x met met':=⟨h.sub,h.all,h.cl⟩
theorem GrT.free (M:Mtc b a) (G:Edg N b) (hx:∀y,aM a x=some y→y∈met) (hy:y∈N x) (hm:y∉met) (hb:aM b y=none):GrT N b a x met (iG b y x) (iG a x y):=by
  have hne:∀w∈met,w≠y:=fun w hw e=>hm (e▸hw)
  have haz:∀z,aM a z≠some y:=fun z e=>by rw[(M y z).mpr e] at hb; cases hb
  refine ⟨fun w hw=>by rw[ah,if_neg (hne w hw)],⟨y,by rw[ah,if_pos rfl],hm⟩,fun z hz _=>by rw[ah,if_neg hz],fun w z hz=>?_,fun w=>?_,fun z=>?_,fun w z h=>?_,fun L R C=>?_,fun w z h=>?_⟩
  · rw[ah,ah,if_neg hz]
    by_cases e:w=y
    · subst e
      rw[if_pos rfl]
      exact ⟨fun e=>absurd (Option.some.inj e).symm hz,fun e=>absurd e (haz z)⟩
    · rw[if_neg e]
      exact M w z
  · rw[ah,ah,if_pos rfl]
    by_cases e:w=y
    · subst e
      rw[if_pos rfl]
      exact ⟨fun _=>.inl rfl,fun _=>rfl⟩
    · rw[if_neg e]
      exact ⟨fun h=>.inr ((M w x).mp h),fun h=>h.elim (fun h=>absurd (Option.some.inj h).symm e) (M w x).mpr⟩
  · rw[ah]
    by_cases e:z=x
    · simp[e]
    · simp[e]
  · rw[ah] at h
    by_cases e:w=y
    · subst e
      rw[if_pos rfl] at h
      cases h
      exact hy
    · rw[if_neg e] at h
      exact G w z h
  · have nx:¬L x:=fun h=>by
      obtain ⟨x',_,e⟩:=C.back y (C.out x h y hy)
      rw[hb] at e
      cases e
    refine ⟨nx,fun w hw=>?_⟩
    rw[ah,if_neg]
    rintro rfl
    obtain ⟨x',_,e⟩:=C.back w hw
    rw[hb] at e
    cases e
  · rw[ah] at h
    by_cases e:w=y
    · subst e
      rw[if_pos rfl] at h
      cases h
      exact .inr (.inr (.inl rfl))
    · rw[if_neg e] at h
      exact .inl h
theorem GrT.step {x1:aH} {b1 a1:RR} (M:Mtc b a) (I:∀z∈met,z∈m0) (hx:∀y,aM a x=some y→y∈met) (hy:y∈N x) (hm:y∉m0) (hb:aM b y=some x1) (T:GrT N b a x1 (m0++[y]) b1 a1):GrT N b a x met (iG b1 y x) (iG a1 x y):=by
  have hym:y∉met:=fun h=>hm (I y h)
  have hne:∀w∈met,w≠y:=fun w hw e=>hym (e▸hw)
  have ha1:aM a x1=some y:=(M y x1).mp hb
  have hxx:x≠x1:=fun e=>by
    subst e
    exact hym (hx y ha1)
  have up:∀w∈met,w∈m0++[y]:=fun w hw=>List.mem_append_left _ (I w hw)
  have yin:y∈m0++[y]:=by simp
  have hby:aM b1 y=some x1:=by rw[T.t1 y yin,hb]
  have hax:aM a1 x=aM a x:=T.t3 x hxx fun w hw=>up w (hx w hw)
  obtain ⟨y1,e1,n1⟩:=T.t2
  have hy1:y1≠y:=fun e=>n1 (e▸yin)
  refine ⟨fun w hw=>by rw[ah,if_neg (hne w hw),T.t1 w (up w hw)],⟨y,by rw[ah,if_pos rfl],hym⟩,fun z hz h=>?_,fun w z hz=>?_,fun w=>?_,fun z=>?_,fun w z h=>?_,fun L R C=>?_,fun w z h=>?_⟩
  · rw[ah,if_neg hz]
    refine T.t3 z (fun e=>?_) fun w hw=>up w (h w hw)
    subst e
    exact hym (h y ha1)
  · rw[ah,ah,if_neg hz]
    by_cases e:w=y
    · subst e
      rw[if_pos rfl]
      refine ⟨fun e=>absurd (Option.some.inj e).symm hz,fun e=>?_⟩
      by_cases hz1:z=x1
      · subst hz1
        rw[e1] at e
        exact absurd (Option.some.inj e) hy1
      · have:=(T.t4 w z hz1).mpr e
        rw[hby] at this
        exact absurd (Option.some.inj this).symm hz1
    · rw[if_neg e]
      by_cases hz1:z=x1
      · subst hz1
        rw[T.t4x w]
        exact ⟨fun h=>h.elim id fun h=>by
          rw[ha1] at h
          exact absurd (Option.some.inj h).symm e,.inl⟩
      · exact T.t4 w z hz1
  · rw[ah,ah,if_pos rfl]
    by_cases e:w=y
    · subst e
      rw[if_pos rfl]
      exact ⟨fun _=>.inl rfl,fun _=>rfl⟩
    · rw[if_neg e,T.t4 w x hxx,hax]
      exact ⟨.inr,fun h=>h.elim (fun h=>absurd (Option.some.inj h).symm e) id⟩
  · rw[ah]
    by_cases e:z=x
    · simp[e]
    · rw[if_neg e,T.t5 z]
      constructor
      · rintro (h|h)
        · exact .inl h
        · subst h
          rw[ha1]
          exact .inl rfl
      · rintro (h|h)
        · exact .inl h
        · exact absurd h e
  · rw[ah] at h
    by_cases e:w=y
    · subst e
      rw[if_pos rfl] at h
      cases h
      exact hy
    · rw[if_neg e] at h
      exact T.t6 w z h
  · obtain ⟨n1,k1⟩:=T.t7 L R C
    have nR:¬R y:=fun h=>by
      obtain ⟨x',h1,e⟩:=C.back y h
      rw[hb] at e
      cases e
      exact n1 h1
    refine ⟨fun h=>nR (C.out x h y hy),fun w hw=>?_⟩
    rw[ah,if_neg]
    · exact k1 w hw
    · rintro rfl
      exact nR hw
  · rw[ah] at h
    by_cases e:w=y
    · subst e
      exact .inr (.inl (by rw[hb]; exact fun z=>nomatch z))
    · rw[if_neg e] at h
      rcases T.t8 w z h with h|h|h|h
      · exact .inl h
      · exact .inr (.inl h)
      · subst h
        exact .inr (.inr (.inr (by rw[ha1]; rfl)))
      · exact .inr (.inr (.inr h))
/-- as some rides are tried -/
structure Mxm (N:aH→List aH) (pre:List aH) (b a:RR):Prop where
  m:Mtc b a
  g:Edg N b
  k:∀z,(aM a z).isSome=true→z∈pre
  c:∀z∈pre,aM a z=none→∃L R,Cls N b L R∧L z
theorem Mxm.nil:Mxm N [] [] [] where
  m:=fun y x=>by simp[aM]
  g:=fun y x h=>by simp[aM] at h
  k:=fun z h=>by simp[aM] at h
  c:=fun z hz=>nomatch hz
theorem Mxm.no {pre met':List aH} (h:Mxm N pre b a) (hf:GrF N b x [] met'):Mxm N (pre++[x]) b a:=by
  refine ⟨h.m,h.g,fun z hz=>List.mem_append_left _ (h.k z hz),fun z hz hn=>?_⟩
  rcases List.mem_append.mp hz with hz|hz
  · exact h.c z hz hn
  · rw[List.mem_singleton.mp hz]
    refine ⟨fun w=>w=x∨∃y∈met',aM b y=some w,fun y=>y∈met',⟨fun w hw y hy=>?_,fun y hy=>?_⟩,.inl rfl⟩
    · rcases hw with rfl|⟨y',h1,h2⟩
      · exact hf.all y hy
      · obtain ⟨x',e,h3⟩:=hf.cl y' h1 List.not_mem_nil
        rw[h2] at e
        cases e
        exact h3 y hy
    · obtain ⟨x',e,_⟩:=hf.cl y hy List.not_mem_nil
      exact ⟨x',.inr ⟨y,hy,e⟩,e⟩
theorem Mxm.yes {pre:List aH} {b' a':RR} (h:Mxm N pre b a) (hx:x∉pre) (T:GrT N b a x [] b' a'):Mxm N (pre++[x]) b' a':=by
  have hax:aM a x=none:=by
    cases e:aM a x with
    | none=>rfl
    | some y=>exact absurd (h.k x (by rw[e]; rfl)) hx
  refine ⟨fun y z=>?_,T.t6,fun z hz=>?_,fun z hz hn=>?_⟩
  · by_cases e:z=x
    · subst e
      rw[T.t4x y,hax]
      simp
    · exact T.t4 y z e
  · rcases (T.t5 z).mp hz with h1|h1
    · exact List.mem_append_left _ (h.k z h1)
    · simp[h1]
  · have hzx:z≠x:=fun e=>by
      obtain ⟨y,h1,_⟩:=T.t2
      rw[e,h1] at hn
      cases hn
    have hz:z∈pre:=by simpa [hzx] using hz
    have hza:aM a z=none:=by
      cases e:aM a z with
      | none=>rfl
      | some y=>
        have:=(T.t5 z).mpr (.inl (by rw[e]; rfl))
        rw[hn] at this
        cases this
    obtain ⟨L,R,C,hL⟩:=h.c z hz hza
    exact ⟨L,R,C.keep (T.t7 L R C).2,hL⟩
end
end DL
namespace DL
open PySem PySem.Spec PyProof.Rows L2 LamX
/-- whether a plane may do y behind x -/
def cf (ls:List Leg) (turn:Int) (x y:aH):Bool:=decide (mZ ls x=i7 ls y)&&decide (e6 ls x+turn≤av ls y)
def nxf (ls:List Leg) (turn:Int) (rides:List aH) (x:aH):List aH:=rides.filter fun y=>cf ls turn x y
section
variable {S:Sto} {l:Nat} {ps:List (Str × Int)} {ls:List Leg} {turn:Int} {x y:aH}
theorem jt (h:NetOk ps ls) {r:aH} (hr:HasLeg ls r.2):PyData.strOk (i7 ls r)=true∧PyData.strOk (mZ ls r)=true:=by
  have ok:=h.legs _ (gK hr)
  exact ⟨(eP _ (h.sub _ ok.s)).2.2,(eP _ (h.sub _ ok.g)).2.2⟩
theorem ic (H:NetOk ps ls) (N:NetAt S l ps ls) (hx:HasLeg ls x.2) (hy:HasLeg ls y.2):bX [.loc l,.int turn,aE x,aE y] S=.ok (.bool (cf ls turn x y)) S:=by
  apply aT
  unfold bX
  apply aW
  unfold jh
  have e1:=wZ N hx
  have e2:=uo N hy
  have e3:=sZ N hx
  have e4:=oK N hy
  have o1:=(jt H hx).2
  have o2:=(jt H hy).1
  obtain ⟨c,g,h1,h2,h3⟩:=N.ex
  simp -dsimp [h1,e1,e2,e3,e4,o1,o2]
  by_cases h:mZ ls x=i7 ls y
  · simp -dsimp [h,cf]
  · simp -dsimp [h,cf]
theorem lU {S:Sto} {l:Nat} {t:Bool} {kvs:List (D × D)} {a:D} (h:S[l]?=some (.dct t kvs)):dIn S a (.loc l)=if cB t a=true then some (cz t kvs a).isSome else none:=by
  simp[dIn,h]
end
/-- a dict of rides by rides -/
def rrK (b:RR):List (D × D):=b.map fun p=>(aE p.1,aE p.2)
/-- a dict whose keys are rides,each True -/
def dA (m:List aH):List (D × D):=m.map fun r=>(aE r,.bool true)
theorem gL (b:RR) (r:aH):cz true (rrK b) (aE r)=(aM b r).map aE:=iQ b aE r
theorem pK (b:RR) (r q:aH):gR true (rrK b) (aE r) (aE q)=rrK (iG b r q):=we b aE r q
theorem ut (m:List aH) (r:aH):(cz true (dA m) (aE r)).isSome=decide (r∈m):=by
  have h:=iQ (m.map fun r=>(r,())) (fun _=>D.bool true) r
  rw[List.map_map] at h
  have e:dA m=m.map ((fun p:aH × Unit=>(aE p.1,D.bool true))∘fun r=>(r,())):=rfl
  rw[e,h,Option.isSome_map,Bool.eq_iff_iff,decide_eq_true_eq]
  unfold aM
  rw[Option.isSome_map,List.find?_isSome]
  constructor
  · rintro ⟨q,h1,h2⟩
    obtain ⟨r',h3,rfl⟩:=List.mem_map.mp h1
    have:r'=r:=by simpa using h2
    exact this▸h3
  · intro h1
    exact ⟨(r,()),List.mem_map.mpr ⟨r,h1,rfl⟩,by simp⟩
theorem wf {m:List aH} {r:aH} (h:r∉m):gR true (dA m) (aE r) (.bool true)=dA (m++[r]):=by
  unfold gR dA
  rw[if_neg]
  · simp
  · simp only[List.any_eq_true,not_exists,not_and,List.mem_map,forall_exists_index,and_imp]
    rintro p q hq rfl
    rw[iF]
    simp
    rintro rfl
    exact h hq
/-- all else stands -/
structure Fr (l:List Nat) (S S':Sto):Prop where
  len:S'.length=S.length
  same:∀i,i∉l→S'[i]?=S[i]?
theorem Fr.refl (l:List Nat) (S:Sto):Fr l S S:=⟨rfl,fun _ _=>rfl⟩
theorem Fr.trans {l:List Nat} {S S' S'':Sto} (h:Fr l S S') (h2:Fr l S' S''):Fr l S S'':=⟨h2.len.trans h.len,fun i hi=>(h2.same i hi).trans (h.same i hi)⟩
theorem Fr.set {l:List Nat} {S:Sto} {i:Nat} (h:i∈l) (o:O):Fr l S (S.set i o):=⟨by simp,fun j hj=>by rw[List.getElem?_set_ne]; rintro rfl; exact hj h⟩
theorem Fr.mono {l l':List Nat} {S S':Sto} (h:Fr l S S') (k:∀i∈l,i∈l'):Fr l' S S':=⟨h.len,fun i hi=>h.same i fun z=>hi (k i z)⟩
/-- where a Matcher's parts lie -/
structure MaP where
  m:Nat
  c:Nat
  n:Nat
  b:Nat
  a:Nat
structure MaP.Ok (p:MaP):Prop where
  mb:p.m≠p.b
  ma:p.m≠p.a
  cb:p.c≠p.b
  ca:p.c≠p.a
  nb:p.n≠p.b
  na:p.n≠p.a
  ba:p.b≠p.a
structure MtA (S:Sto) (p:MaP) (rides:List aH) (N:aH→List aH) (b a:RR):Prop where
  ok:p.Ok
  m:S[p.m]?=some (.ins "Matcher" [("every",.loc p.c),("nexts",.loc p.n),("behind",.loc p.b),("ahead",.loc p.a)])
  c:S[p.c]?=some (.lst (rides.map aE))
  n:S[p.n]?=some (.dct true (rides.map fun x=>(aE x,.lst ((N x).map aE))))
  b:S[p.b]?=some (.dct true (rrK b))
  a:S[p.a]?=some (.dct true (rrK a))
theorem MtA.fr {S S':Sto} {p:MaP} {rides:List aH} {N:aH→List aH} {b a:RR} {l:List Nat} (h:MtA S p rides N b a) (f:Fr l S S') (hm:p.m∉l) (hc:p.c∉l) (hn:p.n∉l) (hb:p.b∉l) (ha:p.a∉l):MtA S' p rides N b a:=
  ⟨h.ok,by rw[f.same _ hm]; exact h.m,by rw[f.same _ hc]; exact h.c,by rw[f.same _ hn]; exact h.n,by rw[f.same _ hb]; exact h.b,by rw[f.same _ ha]; exact h.a⟩
theorem MtA.setB {S:Sto} {p:MaP} {rides:List aH} {N:aH→List aH} {b a:RR} (h:MtA S p rides N b a) (b':RR):MtA (S.set p.b (.dct true (rrK b'))) p rides N b' a:=by
  have hl:=(List.getElem?_eq_some_iff.mp h.b).1
  exact ⟨h.ok,by rw[List.getElem?_set_ne h.ok.mb.symm]; exact h.m,by rw[List.getElem?_set_ne h.ok.cb.symm]; exact h.c,by rw[List.getElem?_set_ne h.ok.nb.symm]; exact h.n,by rw[List.getElem?_set_self hl],by rw[List.getElem?_set_ne h.ok.ba]; exact h.a⟩
theorem MtA.setA {S:Sto} {p:MaP} {rides:List aH} {N:aH→List aH} {b a:RR} (h:MtA S p rides N b a) (a':RR):MtA (S.set p.a (.dct true (rrK a'))) p rides N b a':=by
  have hl:=(List.getElem?_eq_some_iff.mp h.a).1
  exact ⟨h.ok,by rw[List.getElem?_set_ne h.ok.ma.symm]; exact h.m,by rw[List.getElem?_set_ne h.ok.ca.symm]; exact h.c,by rw[List.getElem?_set_ne h.ok.na.symm]; exact h.n,by rw[List.getElem?_set_ne h.ok.ba.symm]; exact h.b,by rw[List.getElem?_set_self hl]⟩
section
variable {S:Sto} {p:MaP} {rides:List aH} {N:aH→List aH} {b a:RR}
theorem MtA.nexts (h:MtA S p rides N b a) {x:aH} (hx:x∈rides):fIx S (.loc p.n) (aE x)=some (.lst ((N x).map aE)):=by
  rw[jX h.n,bh,if_pos rfl]
  have e:=iQ (rides.map fun x=>(x,N x)) (fun l=>D.lst (l.map aE)) x
  rw[List.map_map] at e
  have e2:(rides.map fun x=>(aE x,D.lst ((N x).map aE)))=rides.map ((fun p:aH × List aH=>(aE p.1,D.lst (p.2.map aE)))∘fun x=>(x,N x)):=rfl
  rw[e2,e]
  have:aM (rides.map fun x=>(x,N x)) x=some (N x):=by
    unfold aM
    rw[List.find?_map,Option.map_map]
    have h2:(rides.find? ((fun p:aH × List aH=>decide (p.1=x))∘fun x=>(x,N x))).isSome=true:=List.find?_isSome.mpr ⟨x,hx,by simp⟩
    obtain ⟨q,hq⟩:=Option.isSome_iff_exists.mp h2
    have h3:=List.find?_some hq
    simp at h3
    subst h3
    rw[hq]
    rfl
  rw[this]
  rfl
theorem MtA.inB (h:MtA S p rides N b a) (y:aH):dIn S (aE y) (.loc p.b)=some (aM b y).isSome:=by
  rw[lU h.b,bh,if_pos rfl,gL,Option.isSome_map]
theorem MtA.inA (h:MtA S p rides N b a) (y:aH):dIn S (aE y) (.loc p.a)=some (aM a y).isSome:=by
  rw[lU h.a,bh,if_pos rfl,gL,Option.isSome_map]
theorem MtA.ixB (h:MtA S p rides N b a) {y x:aH} (e:aM b y=some x):fIx S (.loc p.b) (aE y)=some (aE x):=by
  rw[jX h.b,bh,if_pos rfl,gL,e]; rfl
theorem MtA.ixA (h:MtA S p rides N b a) {y x:aH} (e:aM a y=some x):fIx S (.loc p.a) (aE y)=some (aE x):=by
  rw[jX h.a,bh,if_pos rfl,gL,e]; rfl
theorem rA {t:Nat} {m:List aH} (h:S[t]?=some (.dct true (dA m))) (y:aH):dIn S (aE y) (.loc t)=some (decide (y∈m)):=by
  rw[lU h,bh,if_pos rfl,ut]
theorem sf {t:Nat} {m:List aH} (h:S[t]?=some (.dct true (dA m))) (hl:m.length<1000000) {y:aH} (hy:y∉m):bM S (.loc t) (aE y) (.bool true)=some (S.set t (.dct true (dA (m++[y])))):=by
  have hl2:(dA m).length<1000000:=by unfold dA; simpa using hl
  simp[bM,h,hl2,wf hy]
theorem MtA.putB (h:MtA S p rides N b a) (hl:b.length<1000000) (y x:aH):bM S (.loc p.b) (aE y) (aE x)=some (S.set p.b (.dct true (rrK (iG b y x)))):=by
  have hl2:(rrK b).length<1000000:=by unfold rrK; simpa using hl
  simp[bM,h.b,hl2,pK]
theorem MtA.putA (h:MtA S p rides N b a) (hl:a.length<1000000) (y x:aH):bM S (.loc p.a) (aE y) (aE x)=some (S.set p.a (.dct true (rrK (iG a y x)))):=by
  have hl2:(rrK a).length<1000000:=by unfold rrK; simpa using hl
  simp[bM,h.a,hl2,pK]
end
end DL
namespace DL
open PySem PySem.Spec PyProof.Rows L2 LamX
theorem cX {α:Type} [DecidableEq α]:∀ {l m:List α},l.Nodup→(∀x∈l,x∈m)→l.length≤m.length
  | [],_,_,_=>Nat.zero_le _
  | x::l,m,nd,h=>by
    rw[List.nodup_cons] at nd
    have hx:=h x List.mem_cons_self
    have:=cX (m:=m.erase x) nd.2 fun y hy=>(List.mem_erase_of_ne fun e=>nd.1 (by rw[←e]; exact hy)).mpr (h y (List.mem_cons_of_mem _ hy))
    rw[List.length_erase_of_mem hx] at this
    have:=List.length_pos_of_mem hx
    rw[List.length_cons]
    omega
structure Wf (rides:List aH) (b:RR):Prop where
  nd:(b.map (·.1)).Nodup
  ks:∀p∈b,p.1∈rides
  vs:∀p∈b,p.2∈rides
section
variable {rides:List aH} {b:RR} {x y:aH}
theorem Wf.nil:Wf rides []:=⟨by simp,nofun,nofun⟩
theorem Wf.len (h:Wf rides b):b.length≤rides.length:=by
  have:=cX h.nd (m:=rides) fun k hk=>by
    obtain ⟨p,hp,rfl⟩:=List.mem_map.mp hk
    exact h.ks p hp
  simpa using this
theorem Wf.look (h:Wf rides b) (e:aM b y=some x):x∈rides:=h.vs _ (jA e)
theorem Wf.put (h:Wf rides b) (hy:y∈rides) (hx:x∈rides):Wf rides (iG b y x):=by
  unfold iG
  split
  · refine ⟨?_,fun p hp=>?_,fun p hp=>?_⟩
    · rw[List.map_map]
      have e:(b.map ((fun p:aH × aH=>p.1)∘fun p=>if p.1=y then (p.1,x) else p))=b.map (·.1):=List.map_congr_left fun p _=>by
        simp only[Function.comp_apply]
        split<;>rfl
      rw[e]
      exact h.nd
    · obtain ⟨q,hq,rfl⟩:=List.mem_map.mp hp
      split
      · exact h.ks q hq
      · exact h.ks q hq
    · obtain ⟨q,hq,rfl⟩:=List.mem_map.mp hp
      split
      · exact hx
      · exact h.vs q hq
  · rename_i hn
    refine ⟨?_,fun p hp=>?_,fun p hp=>?_⟩
    · rw[List.map_append,List.nodup_append]
      refine ⟨h.nd,by simp,fun k hk k2 hk2 e=>hn ?_⟩
      obtain ⟨q,hq,rfl⟩:=List.mem_map.mp hk
      simp at hk2
      exact List.any_eq_true.mpr ⟨q,hq,by simp[e,hk2]⟩
    · rcases List.mem_append.mp hp with hp|hp
      · exact h.ks p hp
      · rw[List.mem_singleton.mp hp]; exact hy
    · rcases List.mem_append.mp hp with hp|hp
      · exact h.vs p hp
      · rw[List.mem_singleton.mp hp]; exact hx
end
/-- what grow tells and leaves -/
structure GrR (S:Sto) (p:MaP) (rides:List aH) (N:aH→List aH) (t:Nat) (b a:RR) (x:aH) (met:List aH) (v:D) (S':Sto):Prop where
  ex:∃(r:Bool) (met':List aH) (b' a':RR),v=.bool r∧MtA S' p rides N b' a'∧S'[t]?=some (.dct true (dA met'))∧Fr [t,p.b,p.a] S S'∧met'.Nodup∧(∀y∈met',y∈rides)∧Wf rides b'∧Wf rides a'∧
    (r=false→b'=b∧a'=a∧GrF N b x met met')∧(r=true→GrT N b a x met b' a')
structure GrL (S:Sto) (p:MaP) (rides:List aH) (N:aH→List aH) (t:Nat) (b a:RR) (x:aH) (met pre:List aH) (env:En) (S':Sto):Prop where
  ex:∃(m0:List aH) (e3:Option D),env=[some (.loc p.m),some (aE x),some (.loc t),e3]∧MtA S' p rides N b a∧S'[t]?=some (.dct true (dA m0))∧Fr [t,p.b,p.a] S S'∧m0.Nodup∧(∀y∈m0,y∈rides)∧GrI N b pre met m0
structure Off (t:Nat) (p:MaP):Prop where
  m:t≠p.m
  c:t≠p.c
  n:t≠p.n
  b:t≠p.b
  a:t≠p.a
section
variable {p:MaP} {rides:List aH} {N:aH→List aH} {t:Nat}
theorem yQ (hN:∀x∈rides,∀y∈N x,y∈rides) (hl:rides.length≤100000) (ht:Off t p):∀(n:Nat) (S:Sto) (x:aH) (met:List aH) (b a:RR),MtA S p rides N b a→S[t]?=some (.dct true (dA met))→x∈rides→met.Nodup→(∀y∈met,y∈rides)→Wf rides b→Wf rides a→
    Mtc b a→Edg N b→(∀y,aM a x=some y→y∈met)→rides.length<met.length+n→Res.wp (bQ n [.loc p.m,aE x,.loc t] S) (GrR S p rides N t b a x met) NoE:=by
  intro n
  induction n with
  | zero=>
    intro S x met b a h hm hx nd hs wb wa M G hax hn
    have:=cX nd hs
    omega
  | succ n ih=>
    intro S x met b a h hm hx nd hs wb wa M G hax hn
    have hbl:=wb.len
    have hal:=wa.len
    unfold bQ
    apply aW
    have e1:=h.nexts hx
    have m1:=h.m
    simp -dsimp [m1,e1]
    refine eU (f:=aE) (N x) (fun pre _=>GrL S p rides N t b a x met pre) rfl ⟨met,none,rfl,h,hm,.refl _ _,nd,hs,.start⟩ ?_ ?_
    · rintro pre y rest env S1 hp ⟨m0,e3,rfl,h1,hm1,f1,nd1,hs1,I⟩
      refine ⟨_,rfl,?_⟩
      have hyN:y∈N x:=by rw[←hp]; simp
      have hy:=hN x hx y hyN
      have i1:=rA hm1 y
      have m2:=h1.m
      have hml:=cX nd1 hs1
      by_cases hym:y∈m0
      · simp -dsimp [i1,hym]
        exact ⟨m0,_,rfl,h1,hm1,f1,nd1,hs1,I.old hym⟩
      · have p1:=sf hm1 (by omega) hym
        simp -dsimp [i1,hym,p1]
        have htl:=(List.getElem?_eq_some_iff.mp hm1).1
        have f2:Fr [t] S1 (S1.set t (.dct true (dA (m0++[y])))):=.set (by simp) _
        have h2:MtA (S1.set t (.dct true (dA (m0++[y])))) p rides N b a:=h1.fr f2 (by simpa using ht.m.symm) (by simpa using ht.c.symm) (by simpa using ht.n.symm) (by simpa using ht.b.symm) (by simpa using ht.a.symm)
        have hm2:(S1.set t (.dct true (dA (m0++[y]))))[t]?=some (.dct true (dA (m0++[y]))):=by rw[List.getElem?_set_self htl]
        have f3:Fr [t,p.b,p.a] S (S1.set t (.dct true (dA (m0++[y])))):=f1.trans (f2.mono (by simp))
        generalize S1.set t (.dct true (dA (m0++[y])))=S2 at h2 hm2 f3
        have m3:=h2.m
        have i2:=h2.inB y
        have nd2:(m0++[y]).Nodup:=by
          rw[List.nodup_append]
          exact ⟨nd1,by simp,fun u hu w hw e=>hym (by rw[←List.mem_singleton.mp hw,←e]; exact hu)⟩
        have hs2:∀z∈m0++[y],z∈rides:=fun z hz=>(List.mem_append.mp hz).elim (hs1 z) fun e=>by rw[List.mem_singleton.mp e]; exact hy
        -- both dicts are told of it
        have fin:∀(S3:Sto) (b1 a1:RR) (m3:List aH),MtA S3 p rides N b1 a1→S3[t]?=some (.dct true (dA m3))→Fr [t,p.b,p.a] S S3→m3.Nodup→(∀z∈m3,z∈rides)→Wf rides b1→Wf rides a1→GrT N b a x met (iG b1 y x) (iG a1 x y)→
            ∃S4,bM S3 (.loc p.b) (aE y) (aE x)=some S4∧S4[p.m]?=S3[p.m]?∧∃S5,bM S4 (.loc p.a) (aE x) (aE y)=some S5∧GrR S p rides N t b a x met (.bool true) S5:=by
          intro S3 b1 a1 m3 k1 k2 k3 k4 k5 k6 k7 k8
          have l6:=k6.len
          have l7:=k7.len
          have q1:=k1.setB (iG b1 y x)
          refine ⟨_,k1.putB (by omega) y x,by rw[List.getElem?_set_ne k1.ok.mb.symm],_,q1.putA (by omega) x y,⟨true,m3,_,_,rfl,q1.setA _,?_,k3.trans ((Fr.set (by simp) _).trans (.set (by simp) _)),k4,k5,k6.put hy hx,k7.put hx hy,nofun,fun _=>k8⟩⟩
          rw[List.getElem?_set_ne ht.a.symm,List.getElem?_set_ne ht.b.symm]
          exact k2
        cases hby:aM b y with
        | none=>
          obtain ⟨S4,r1,r2,S5,r3,r4⟩:=fin S2 b a (m0++[y]) h2 hm2 f3 nd2 hs2 wb wa (.free M G hax hyN (fun z=>hym (I.sub y z)) hby)
          have r5:=r2.trans m3
          simp -dsimp [m3,i2,hby,r1,r5,r3]
          exact r4
        | some x1=>
          have hx1:=wb.look hby
          have r0:=h2.ixB hby
          simp -dsimp [m3,i2,hby,r0]
          refine cV (ih S2 x1 (m0++[y]) b a h2 hm2 hx1 nd2 hs2 wb wa M G (fun z hz=>?_) (by have:=cX nd hs; have:=cX nd I.sub; simp; omega)) ?_
          · rw[(M y x1).mp hby] at hz
            cases hz
            simp
          · rintro v S3 ⟨r,m3,b1,a1,rfl,k1,k2,k3,k4,k5,k6,k7,kf,kt⟩
            have m4:=k1.m
            cases r with
            | false=>
              obtain ⟨eb,ea,kf2⟩:=kf rfl
              rw[eb,ea] at k1
              simp -dsimp
              exact ⟨m3,_,rfl,k1,k2,f3.trans k3,k4,k5,I.fail hby kf2⟩
            | true=>
              obtain ⟨S4,r1,r2,S5,r3,r4⟩:=fin S3 b1 a1 m3 k1 k2 (f3.trans k3) k4 k5 k6 k7 (.step M I.sub hax hyN hym hby (kt rfl))
              have r5:=r2.trans m4
              simp -dsimp [m4,r1,r5,r3]
              exact r4
    · rintro env S1 ⟨m0,e3,rfl,h1,hm1,f1,nd1,hs1,I⟩
      simp -dsimp
      exact ⟨false,m0,b,a,rfl,h1,hm1,f1,nd1,hs1,wb,wa,fun _=>⟨rfl,rfl,I.done⟩,nofun⟩
end
end DL
namespace DL
open PySem PySem.Spec PyProof.Rows L2 LamX
theorem rC {acc:List (aH × D)} {r:aH} {v:D} (h:r∉acc.map (·.1)):gR true (acc.map fun p=>(aE p.1,p.2)) (aE r) v=(acc++[(r,v)]).map fun p=>(aE p.1,p.2):=by
  unfold gR
  rw[if_neg]
  · simp
  · simp only[List.any_eq_true,not_exists,not_and,List.mem_map,forall_exists_index,and_imp]
    rintro p q hq rfl
    rw[iF]
    simp
    rintro rfl
    exact h (List.mem_map.mpr ⟨q,hq,rfl⟩)
theorem ie {g:MG} {tc:MT} {mk mv:ME} {w:En} {S:Sto} {l:Nat} (rides:List aH) (v:aH→D) (nd:rides.Nodup) (hl:rides.length≤1000000) (hS:S[l]?=some (.lst (rides.map aE)))
    (hx:∀x∈rides,∃e,g (aE x) w S=some (e,S)∧tc e S=.ok true S∧mk e S=.ok (aE x) S∧mv e S=.ok (v x) S):cW g tc mk mv w l (cy S l+1) 0 [] S=.ok (rides.map fun x=>(aE x,v x)) S:=by
  have hlen:cy S l=rides.length:=by simp[cy,hS]
  rw[hlen]
  have loop:∀(rest pre:List aH),pre++rest=rides→cW g tc mk mv w l (rest.length+1) pre.length ((pre.map fun x=>(x,v x)).map fun p=>(aE p.1,p.2)) S=.ok (rides.map fun x=>(aE x,v x)) S:=by
    intro rest
    induction rest with
    | nil=>
      intro pre e
      rw[List.append_nil] at e
      subst e
      unfold cW
      simp only[hS]
      rw[show (pre.map aE)[pre.length]?=none by simp]
      simp
    | cons x rest ih=>
      intro pre e
      obtain ⟨e1,h1,h2,h3,h4⟩:=hx x (by rw[←e]; simp)
      rw[List.length_cons]
      unfold cW
      simp only[hS]
      rw[show (rides.map aE)[pre.length]?=some (aE x) by rw[←e]; simp]
      have hn:x∉(pre.map fun x=>(x,v x)).map (·.1):=fun hm=>by
        rw[List.map_map] at hm
        obtain ⟨z,hz,rfl⟩:=List.mem_map.mp hm
        rw[←e,List.nodup_append] at nd
        exact nd.2.2 _ hz _ List.mem_cons_self rfl
      have hpl:(((pre.map fun x=>(x,v x)).map fun p=>(aE p.1,p.2)):List (D × D)).length<1000000:=by
        have:(pre++x::rest).length=rides.length:=by rw[e]
        simp at this ⊢
        omega
      unfold gS
      simp only[h1,h2,h3,h4,bO,if_true,bh,hpl,and_self]
      rw[rC hn]
      have:=ih (pre++[x]) (by rw[←e]; simp)
      simp only[List.map_append,List.map_cons,List.map_nil,List.length_append,List.length_cons,List.length_nil] at this ⊢
      exact this
  exact loop rides [] rfl
/-- what is left of a new Matcher -/
structure InI (S:Sto) (p:MaP) (l:Nat) (turn:Int) (rides:List aH) (N:aH→List aH) (pre:List aH) (env:En) (S':Sto):Prop where
  ex:∃(b a:RR) (x4 x5 x6:Option D),env=[some (.loc p.m),some (.loc l),some (.int turn),some (.loc p.c),x4,x5,x6]∧MtA S' p rides N b a∧(∀i,i<S.length→S'[i]?=S[i]?)∧S.length+4≤S'.length∧Wf rides b∧Wf rides a∧Mxm N pre b a
structure InR (S:Sto) (p:MaP) (rides:List aH) (N:aH→List aH) (S':Sto):Prop where
  ex:∃(b a:RR),MtA S' p rides N b a∧(∀i,i<S.length→S'[i]?=S[i]?)∧S.length≤S'.length∧Wf rides b∧Wf rides a∧Mxm N rides b a
section
variable {S:Sto} {l c:Nat} {ps:List (Str × Int)} {ls:List Leg} {turn:Int} {rides:List aH}
theorem wg {w:En} (H:NetOk ps ls) (NA:NetAt S l ps ls) (hc:S[c]?=some (.lst (rides.map aE))) (hr:∀r∈rides,HasLeg ls r.2) (hl:rides.length≤100000) {x:aH} (hx:x∈rides) (h1:w[1]?=some (some (.loc l))) (h2:w[2]?=some (some (.int turn))) (h3:w[3]?=some (some (.loc c))) (h5:w[5]?=some (some (aE x))) (hw:6<w.length) :
    bv (cF (eV 3)) (gV 6) (cQ (aR 4 bX (aC (eV 1) (aC (eV 2) (aC (eV 5) (aC (eV 6) (aJ))))))) (eV 6) [6] w S=.ok (.lst ((nxf ls turn rides x).map aE)) S:=by
  apply aT
  have hit:bI S (.loc c)=some (.live c):=by simp[bI,hc]
  simp -dsimp [h3,hit]
  refine c7 (f:=aE) rides (fun y=>cf ls turn x y) aE (by omega) hc (fun y hy=>⟨_,rfl,?_,fun _=>?_⟩) ?_
  · have e:=ic (turn:=turn) H NA (hr x hx) (hr y hy)
    apply aT
    simp -dsimp [ao,h1,h2,h5,e,hw]
  · apply aT
    simp -dsimp [ao,hw]
  · rw[fJ]
    exact ⟨rfl,rfl⟩
theorem pL (H:NetOk ps ls) (NA:NetAt S l ps ls) (hc:S[c]?=some (.lst (rides.map aE))) (hr:∀r∈rides,HasLeg ls r.2) (nd:rides.Nodup) (hl:rides.length≤119) :
    Res.wp (b7 [.loc S.length,.loc l,.int turn,.loc c] (S++[.ins "Matcher" []])) (fun v S'=>v=.none∧InR S ⟨S.length,c,S.length+1,S.length+2,S.length+3⟩ rides (nxf ls turn rides) S') NoE:=by
  have hcl:=(List.getElem?_eq_some_iff.mp hc).1
  obtain ⟨p,hp⟩:∃p:MaP,p=⟨S.length,c,S.length+1,S.length+2,S.length+3⟩:=⟨_,rfl⟩
  have pok:p.Ok:=by
    subst hp
    constructor<;>simp<;>omega
  rw[←hp]
  unfold b7
  apply aW
  unfold gH
  have g1:∀x:O,(S++[x])[S.length]?=some x:=fun x=>by simp
  have s1:∀y z:O,(S++[y]).set S.length z=S++[z]:=fun y z=>by rw[tr]; rfl
  have c1:∀T:Sto,(S++T)[c]?=some (.lst (rides.map aE)):=fun T=>ae hc T
  have hit:∀T:Sto,bI (S++T) (.loc c)=some (.live c):=fun T=>by simp[bI,c1 T]
  simp -dsimp [g1,s1,hit,gt]
  have hd:∀T:Sto,cW (gV 5) c5 (eV 5) (bv (cF (eV 3)) (gV 6) (cQ (aR 4 bX (aC (eV 1) (aC (eV 2) (aC (eV 5) (aC (eV 6) (aJ))))))) (eV 6) [6]) [some (.loc S.length),some (.loc l),some (.int turn),some (.loc c),none,none,none] c (cy (S++T) c+1) 0 [] (S++T) =
      .ok (rides.map fun x=>(aE x,.lst ((nxf ls turn rides x).map aE))) (S++T):=fun T=>by
    refine ie rides _ nd (by omega) (c1 T) fun x hx=>⟨_,rfl,rfl,?_,?_⟩
    · rfl
    · exact wg H (NA.app T) (c1 T) hr (by omega) hx rfl rfl rfl rfl (by simp)
  rw[hd]
  have g2:∀(x:O) (T:Sto),(S++x::T)[S.length]?=some x:=fun x T=>by simp
  have s2:∀(y z:O) (T:Sto),(S++y::T).set S.length z=S++z::T:=fun y z T=>by rw[tr]; rfl
  simp -dsimp [g1,s1,g2,s2,hit,gt]
  refine ja (f:=aE) rides (fun pre _=>InI S p l turn rides (nxf ls turn rides) pre) ?_ ?_ ?_ ?_
  · rintro pre rest env S1 e ⟨b,a,x4,x5,x6,rfl,h,k,_,_⟩
    have:=h.c
    rw[hp] at this
    exact this
  · refine ⟨[],[],none,none,none,by rw[hp],⟨pok,?_,?_,?_,?_,?_⟩,fun i hi=>by rw[List.getElem?_append_left hi],by simp,.nil,.nil,.nil⟩
    · rw[hp]; exact g2 _ _
    · rw[hp]; exact c1 _
    · rw[hp]; simp
    · rw[hp]; simp[rrK]
    · rw[hp]; simp[rrK]
  · rintro pre x rest env S1 e ⟨b,a,x4,x5,x6,rfl,h,k,hz,wb,wa,M⟩
    refine ⟨_,rfl,?_⟩
    have hx:x∈rides:=by rw[←e]; simp
    have hxp:x∉pre:=fun z=>by
      rw[←e,List.nodup_append] at nd
      exact nd.2.2 x z x List.mem_cons_self rfl
    have m1:(S1++[.dct true []])[p.m]?=_:=ae h.m _
    have m0:=h.m
    have hA:MtA (S1++[.dct true []]) p rides (nxf ls turn rides) b a:=⟨h.ok,ae h.m _,ae h.c _,ae h.n _,ae h.b _,ae h.a _⟩
    have ht:Off S1.length p:=by
      subst hp
      constructor<;>simp<;>omega
    have hN:∀x∈rides,∀y∈nxf ls turn rides x,y∈rides:=fun x _ y hy=>(List.mem_filter.mp hy).1
    have gw:=yQ hN (by omega) ht 120 (S1++[.dct true []]) x [] b a hA (by simp[dA]) hx .nil nofun wb wa M.m M.g (fun y hy=>absurd (M.k x (by rw[hy]; rfl)) hxp) (by simp; omega)
    simp -dsimp [m0,m1]
    refine cV gw ?_
    rintro v S2 ⟨r,m3,b1,a1,rfl,k1,k2,k3,k4,k5,k6,k7,kf,kt⟩
    simp -dsimp
    have hb4:S.length≤p.b∧S.length≤p.a:=by subst hp; simp
    refine ⟨b1,a1,_,_,_,rfl,k1,fun i hi=>?_,by rw[k3.len]; simp; omega,k6,k7,?_⟩
    · rw[k3.same i (by simp; omega),List.getElem?_append_left (by omega)]
      exact k i hi
    · cases r with
      | false=>
        obtain ⟨eb,ea,kf2⟩:=kf rfl
        subst eb ea
        exact M.no kf2
      | true=>exact M.yes hxp (kt rfl)
  · rintro env S1 ⟨b,a,x4,x5,x6,rfl,h,k,hz,wb,wa,M⟩
    exact ⟨rfl,b,a,h,k,by omega,wb,wa,M⟩
end
end DL
namespace DL
open PySem PySem.Spec PyProof.Rows L2 LamX
/-- what closes from x on -/
def Und (N:aH→List aH) (b:RR) (x:aH):Prop:=∃L R,Cls N b L R∧L x
theorem Und.go {N:aH→List aH} {b:RR} {x y:aH} (h:Und N b x) (hy:y∈N x):∃x',aM b y=some x'∧Und N b x':=by
  obtain ⟨L,R,C,hL⟩:=h
  obtain ⟨x',h1,h2⟩:=C.back y (C.out x hL y hy)
  exact ⟨x',h2,L,R,C,h1⟩
/-- the ends and begins that a cover is made of -/
structure CvP (rides:List aH) (N:aH→List aH) (b a:RR) (E G:List aH):Prop where
  en:E.Nodup
  es:∀e∈E,e∈rides
  gn:G.Nodup
  gs:∀y∈G,y∈rides
  un:∀r∈rides,aM a r=none→r∈E
  cl:∀e∈E,∀y∈N e,y∈G
  bk:∀y∈G,∃x∈E,aM b y=some x
/-- while it is found; cur: the ride that is looked at -/
structure CvI (rides:List aH) (N:aH→List aH) (b a:RR) (cur:aH→Prop) (w E G:List aH):Prop where
  en:E.Nodup
  es:∀e∈E,e∈rides
  gn:G.Nodup
  gs:∀y∈G,y∈rides
  un:∀r∈rides,aM a r=none→r∈E
  cl:∀e∈E,e∈w∨cur e∨∀y∈N e,y∈G
  bk:∀y∈G,∃x∈E,aM b y=some x
  wn:w.Nodup
  ws:∀e∈w,e∈E
  ud:∀e∈E,Und N b e
abbrev cvS (S:Sto) (w E G:List aH):Sto:=S++[.lst (w.map aE),.dct true (dA E),.dct true (dA G)]
structure CvW (S:Sto) (p:MaP) (rides:List aH) (N:aH→List aH) (b a:RR) (k:Nat) (env:En) (S':Sto):Prop where
  ex:∃(w E G:List aH) (x4 x5:Option D),env=[some (.loc p.m),some (.loc S.length),some (.loc (S.length+1)),some (.loc (S.length+2)),x4,x5,none]∧S'=cvS S w E G∧CvI rides N b a (fun _=>False) w E G∧rides.length+w.length≤k+E.length
structure CvL (S:Sto) (p:MaP) (rides:List aH) (N:aH→List aH) (b a:RR) (r:aH) (k:Nat) (pre:List aH) (env:En) (S':Sto):Prop where
  ex:∃(w E G:List aH) (x5:Option D),env=[some (.loc p.m),some (.loc S.length),some (.loc (S.length+1)),some (.loc (S.length+2)),some (aE r),x5,none]∧S'=cvS S w E G∧CvI rides N b a (fun e=>e=r) w E G∧rides.length+w.length≤k+E.length∧(∀y∈pre,y∈G)∧Und N b r
structure CvE (S:Sto) (p:MaP) (rides:List aH) (N:aH→List aH) (b a:RR) (env:En) (S':Sto):Prop where
  ex:∃(E G:List aH) (x4 x5:Option D),env=[some (.loc p.m),some (.loc S.length),some (.loc (S.length+1)),some (.loc (S.length+2)),x4,x5,none]∧S'=cvS S [] E G∧CvP rides N b a E G
theorem pop_cv (S:Sto) (w E G:List aH) (r:aH):bPop (cvS S (w++[r]) E G) (.loc S.length) []=some (aE r,cvS S w E G):=by
  have g1:(cvS S (w++[r]) E G)[S.length]?=some (.lst ((w++[r]).map aE)):=by simp[cvS]
  unfold bPop
  simp only[g1]
  have e:((w++[r]).map aE)[((w++[r]).map aE).length - 1]?=some (aE r):=by simp
  rw[e]
  simp[cvS]
theorem app_cv (S:Sto) (w E G:List aH) (r:aH) (hl:w.length<1000000):bD (cvS S w E G) (.loc S.length) [aE r]=some (.none,cvS S (w++[r]) E G):=by
  have g1:(cvS S w E G)[S.length]?=some (.lst (w.map aE)):=by simp[cvS]
  unfold bD
  simp only[g1]
  rw[if_pos (by simpa using hl)]
  simp[cvS]
def cvT (rides E G:List aH):List T3:=((rides.filter fun r=>!decide (r∈E)).map fun r=>((0:Int),r))++((rides.filter fun r=>decide (r∈G)).map fun r=>((1:Int),r))
theorem cvT_d (rides E G:List aH):(cvT rides E G).map (tD true)=((rides.filter fun r=>!decide (r∈E)).map fun r=>D.tup [.int 0,aE r])++((rides.filter fun r=>decide (r∈G)).map fun r=>D.tup [.int 1,aE r]):=by
  unfold cvT
  rw[List.map_append,List.map_map,List.map_map]
  rfl
theorem rD (S:Sto) (ts:List T3) (hl:ts.length≤1000000):dW S [.lst (ts.map (tD true))]=some (.lst ((ts.mergeSort le3).map (tD true))):=
  j8 ts (tD true) le3 (by simp[dU]) (uC true) (fun x y=>by simp[tD]) (fun x=>⟨_,_,rfl⟩) (fun x y=>by rw[ny]; rfl) hl
section
variable {S:Sto} {p:MaP} {rides:List aH} {N:aH→List aH} {b a:RR}
theorem wj (h:MtA S p rides N b a) (hN:∀x∈rides,∀y∈N x,y∈rides) (nd:rides.Nodup) (hl:rides.length≤100000) (wb:Wf rides b) (M:Mxm N rides b a) :
    Res.wp (cO [.loc p.m] S) (fun v S'=>(∃T,S'=S++T)∧∃E G,CvP rides N b a E G∧v=.tpn (((cvT rides E G).mergeSort le3).map (tD true))) NoE:=by
  have m0:=h.m
  have c0:=h.c
  have hit:∀T:Sto,bI (S++T) (.loc p.c)=some (.live p.c):=fun T=>by simp[bI,ae c0 T]
  have hit0:bI S (.loc p.c)=some (.live p.c):=by simp[bI,c0]
  have hA:∀T:Sto,MtA (S++T) p rides N b a:=fun T=>⟨h.ok,ae h.m _,ae h.c _,ae h.n _,ae h.b _,ae h.a _⟩
  unfold cO
  apply aW
  unfold gk
  simp -dsimp [m0,hit0]
  refine c7 (f:=aE) rides (fun r=>!(aM a r).isSome) aE (by omega) c0 (fun r hr=>⟨_,rfl,?_,fun _=>?_⟩) ?_
  · apply aT
    simp -dsimp [m0,h.inA r]
  · rfl
  obtain ⟨w0,hw0⟩:∃w0,w0=rides.filter fun r=>!(aM a r).isSome:=⟨_,rfl⟩
  rw[←hw0]
  have wn:w0.Nodup:=by rw[hw0]; exact nd.filter _
  have ws:∀r∈w0,r∈rides∧aM a r=none:=fun r hr=>by
    rw[hw0] at hr
    obtain ⟨h1,h2⟩:=List.mem_filter.mp hr
    exact ⟨h1,by simpa using h2⟩
  have wl:w0.length≤rides.length:=cX wn fun r hr=>(ws r hr).1
  have gw:(S++[O.lst (w0.map aE)])[S.length]?=some (.lst (w0.map aE)):=by simp
  have hit1:bI (S++[O.lst (w0.map aE)]) (.loc S.length)=some (.live S.length):=by simp[bI]
  have hd:cW (gV 4) c5 (eV 4) (eC (.bool true)) [some (.loc p.m),some (.loc S.length),none,none,none,none,none] S.length (cy (S++[O.lst (w0.map aE)]) S.length+1) 0 [] (S++[O.lst (w0.map aE)])=.ok (dA w0) (S++[O.lst (w0.map aE)]):=
    ie w0 (fun _=>.bool true) wn (by omega) gw fun x hx=>⟨_,rfl,rfl,rfl,rfl⟩
  simp -dsimp [hit1]
  rw[hd]
  simp -dsimp
  refine mF (qJ (N:=CvE S p rides N b a) (fun k=>CvW S p rides N b a k) ?_ kq rides.length _ _ (by unfold kq; omega) ⟨w0,w0,[],none,none,rfl,rfl,⟨wn,fun e he=>(ws e he).1,.nil,nofun,fun r hr hn=>?_,fun e he=>.inl he,nofun,wn,fun _ h=>h,fun e he=>?_⟩,by omega⟩) (fun e S1 hf=>?_) (fun _ _ z=>z)
  · rintro k env S1 ⟨w,E,G,x4,x5,rfl,rfl,I,hk⟩
    have g0:(cvS S w E G)[S.length]?=some (.lst (w.map aE)):=by simp[cvS]
    by_cases hw:w=[]
    · subst hw
      simp -dsimp [g0]
      exact ⟨E,G,x4,x5,rfl,rfl,I.en,I.es,I.gn,I.gs,I.un,fun e he=>(I.cl e he).elim nofun fun h=>h.elim False.elim id,I.bk⟩
    · obtain ⟨w1,r,rfl⟩:∃w1 r,w=w1++[r]:=⟨w.dropLast,w.getLast hw,(List.dropLast_concat_getLast hw).symm⟩
      have hE:=cX I.en I.es
      rw[List.length_append,List.length_singleton] at hk
      have hrE:=I.ws r (by simp)
      have hr:=I.es r hrE
      have e1:=(hA [.lst (w1.map aE),.dct true (dA E),.dct true (dA G)]).nexts hr
      have m1:(cvS S w1 E G)[p.m]?=_:=ae m0 _
      have hdk:dok 60 (.lst ((w1++[r]).map aE))=true:=rideEnc.lst.dok 60 _ (by omega)
      have hpe:peq (.lst ((w1++[r]).map aE)) (.lst [])=false:=by
        have:=rideEnc.lst.peq (w1++[r]) []
        simp only[List.map_nil,List.append_eq_nil_iff,reduceCtorEq,and_false,iff_false,Bool.not_eq_true] at this
        exact this
      have hpop:=pop_cv S w1 E G r
      simp -dsimp [g0,hdk,hpe,bn,hpop,m1,e1,-List.map_append]
      refine eU (f:=aE) (N r) (fun pre _=>CvL S p rides N b a r (k - 1) pre) rfl ⟨w1,E,G,x5,rfl,rfl,⟨I.en,I.es,I.gn,I.gs,I.un,fun e he=>?_,I.bk,(List.nodup_append.mp I.wn).1,fun e he=>I.ws e (List.mem_append_left _ he),I.ud⟩,by omega,nofun,I.ud r hrE⟩ ?_ ?_
      · rcases I.cl e he with h|h|h
        · rcases List.mem_append.mp h with h|h
          · exact .inl h
          · exact .inr (.inl (List.mem_singleton.mp h))
        · exact h.elim
        · exact .inr (.inr h)
      · rintro pre y rest env S1 hp ⟨w,E,G,x5,rfl,rfl,I,hk,hpG,U⟩
        refine ⟨_,rfl,?_⟩
        have hyN:y∈N r:=by rw[←hp]; simp
        have hyr:=hN r hr y hyN
        have hG:=cX I.gn I.gs
        have hE:=cX I.en I.es
        have g3:(cvS S w E G)[S.length+2]?=some (.dct true (dA G)):=by simp[cvS]
        have i1:=rA g3 y
        by_cases hy:y∈G
        · simp -dsimp [i1,hy]
          refine ⟨w,E,G,_,rfl,rfl,I,hk,fun z hz=>?_,U⟩
          rcases List.mem_append.mp hz with hz|hz
          · exact hpG z hz
          · rw[List.mem_singleton.mp hz]; exact hy
        · obtain ⟨x1,hb,U1⟩:=U.go hyN
          have hx1:=wb.look hb
          have p1:bM (cvS S w E G) (.loc (S.length+2)) (aE y) (.bool true)=some (cvS S w E (G++[y])):=by
            rw[sf g3 (by omega) hy]
            simp[cvS]
          have hB:∀w E G,fIx (cvS S w E G) (.loc p.b) (aE y)=some (aE x1):=fun w E G=>(hA _).ixB hb
          have hM:∀w E G,(cvS S w E G)[p.m]?=_:=fun w E G=>ae m0 _
          have g2:(cvS S w E (G++[y]))[S.length+1]?=some (.dct true (dA E)):=by simp[cvS]
          have i2:=rA g2 x1
          have gn:(G++[y]).Nodup:=by
            rw[List.nodup_append]
            exact ⟨I.gn,by simp,fun u hu v hv e=>hy (by rw[←List.mem_singleton.mp hv,←e]; exact hu)⟩
          have gs:∀z∈G++[y],z∈rides:=fun z hz=>(List.mem_append.mp hz).elim (I.gs z) fun e=>by rw[List.mem_singleton.mp e]; exact hyr
          have hpre:∀z∈pre++[y],z∈G++[y]:=fun z hz=>(List.mem_append.mp hz).elim (fun e=>List.mem_append_left _ (hpG z e)) fun e=>List.mem_append_right _ e
          by_cases hE1:x1∈E
          · simp -dsimp [i1,hy,p1,hM,hB,i2,hE1]
            refine ⟨w,E,G++[y],_,rfl,rfl,⟨I.en,I.es,gn,gs,I.un,fun e he=>?_,fun z hz=>?_,I.wn,I.ws,I.ud⟩,hk,hpre,U⟩
            · rcases I.cl e he with h|h|h
              · exact .inl h
              · exact .inr (.inl h)
              · exact .inr (.inr fun z hz=>List.mem_append_left _ (h z hz))
            · rcases List.mem_append.mp hz with hz|hz
              · exact I.bk z hz
              · rw[List.mem_singleton.mp hz]; exact ⟨x1,hE1,hb⟩
          · have p2:bM (cvS S w E (G++[y])) (.loc (S.length+1)) (aE x1) (.bool true)=some (cvS S w (E++[x1]) (G++[y])):=by
              rw[sf g2 (by omega) hE1]
              simp[cvS]
            have hwl:w.length<1000000:=by have:=cX I.wn I.ws; omega
            have p3:=app_cv S w (E++[x1]) (G++[y]) x1 hwl
            have g0:(cvS S w (E++[x1]) (G++[y]))[S.length]?=some (.lst (w.map aE)):=by simp[cvS]
            simp -dsimp [i1,hy,p1,hM,hB,i2,hE1,p2,bn,g0,p3]
            refine ⟨w++[x1],E++[x1],G++[y],_,rfl,rfl,⟨?_,fun e he=>?_,gn,gs,fun z hz hn=>List.mem_append_left _ (I.un z hz hn),fun e he=>?_,fun z hz=>?_,?_,fun e he=>?_,fun e he=>?_⟩,by simp; omega,hpre,U⟩
            · rw[List.nodup_append]
              exact ⟨I.en,by simp,fun u hu v hv e=>hE1 (by rw[←List.mem_singleton.mp hv,←e]; exact hu)⟩
            · rcases List.mem_append.mp he with he|he
              · exact I.es e he
              · rw[List.mem_singleton.mp he]; exact hx1
            · rcases List.mem_append.mp he with he|he
              · rcases I.cl e he with h|h|h
                · exact .inl (List.mem_append_left _ h)
                · exact .inr (.inl h)
                · exact .inr (.inr fun z hz=>List.mem_append_left _ (h z hz))
              · exact .inl (List.mem_append_right _ he)
            · rcases List.mem_append.mp hz with hz|hz
              · obtain ⟨x',h1,h2⟩:=I.bk z hz
                exact ⟨x',List.mem_append_left _ h1,h2⟩
              · rw[List.mem_singleton.mp hz]; exact ⟨x1,by simp,hb⟩
            · rw[List.nodup_append]
              exact ⟨I.wn,by simp,fun u hu v hv e=>hE1 (by rw[←List.mem_singleton.mp hv,←e]; exact I.ws u hu)⟩
            · rcases List.mem_append.mp he with he|he
              · exact List.mem_append_left _ (I.ws e he)
              · exact List.mem_append_right _ he
            · rcases List.mem_append.mp he with he|he
              · exact I.ud e he
              · rw[List.mem_singleton.mp he]; exact U1
      · rintro env S1 ⟨w,E',G',x5,rfl,rfl,I',hk',hpG,U⟩
        refine ⟨k - 1,by omega,w,E',G',_,_,rfl,rfl,⟨I'.en,I'.es,I'.gn,I'.gs,I'.un,fun e he=>?_,I'.bk,I'.wn,I'.ws,I'.ud⟩,hk'⟩
        rcases I'.cl e he with h|h|h
        · exact .inl h
        · rw[h]; exact .inr (.inr hpG)
        · exact .inr (.inr h)
  · rw[hw0]
    exact List.mem_filter.mpr ⟨hr,by rw[hn]; rfl⟩
  · exact M.c e (ws e he).1 (ws e he).2
  · obtain ⟨E,G,x4,x5,rfl,rfl,P⟩:=hf
    have cE:∀T:Sto,bI (cvS S [] E G++T) (.loc p.c)=some (.live p.c):=fun T=>by
      have:=hit ([.lst [],.dct true (dA E),.dct true (dA G)]++T)
      simpa [cvS] using this
    have m1:(cvS S [] E G)[p.m]?=_:=ae m0 _
    have c1:(cvS S [] E G)[p.c]?=some (.lst (rides.map aE)):=ae c0 _
    have i0:bI (cvS S [] E G) (.loc p.c)=some (.live p.c):=hit _
    have g2:(cvS S [] E G)[S.length+1]?=some (.dct true (dA E)):=by simp[cvS]
    have g3:(cvS S [] E G)[S.length+2]?=some (.dct true (dA G)):=by simp[cvS]
    simp -dsimp [m1,i0]
    refine c7 (f:=aE) rides (fun r=>!decide (r∈E)) (fun r=>.tup [.int 0,aE r]) (by omega) c1 (fun r hr=>⟨_,rfl,?_,fun _=>?_⟩) ?_
    · have:=rA g2 r
      apply aT
      simp -dsimp [this]
    · apply aT
      simp -dsimp
    simp -dsimp [m1,i0]
    refine c7 (f:=aE) rides (fun r=>decide (r∈G)) (fun r=>.tup [.int 1,aE r]) (by omega) c1 (fun r hr=>⟨_,rfl,?_,fun _=>?_⟩) ?_
    · have:=rA g3 r
      apply aT
      simp -dsimp [this]
    · apply aT
      simp -dsimp
    have f1:=List.length_filter_le (fun r=>!decide (r∈E)) rides
    have f2:=List.length_filter_le (fun r=>decide (r∈G)) rides
    have hs:=rD (cvS S [] E G) (cvT rides E G) (by unfold cvT; simp; omega)
    rw[cvT_d] at hs
    have hle:(rides.filter fun r=>!decide (r∈E)).length+(rides.filter fun r=>decide (r∈G)).length≤1000000:=by omega
    have hlc:(cvT rides E G).length≤1000000:=by unfold cvT; simp; omega
    simp -dsimp [hle,hs,hlc]
    exact ⟨E,G,P,rfl⟩
end
end DL
namespace DL
open PySem PySem.Spec PyProof.Rows L2 LamX
/-- the rides of a plane from r on -/
def chF (a:RR):Nat→aH→List aH
  | 0,r=>[r]
  | n+1,r=>match aM a r with
    | none=>[r]
    | some y=>r::chF a n y
theorem lV (a:RR):∀(n:Nat) (r:aH),(chF a n r).length≤n+1
  | 0,r=>by simp[chF]
  | n+1,r=>by
    unfold chF
    split
    · simp
    · rename_i y _
      have:=lV a n y
      simp
      omega
theorem rE {a:RR} {r:aH} (h:aM a r=none) (n:Nat):chF a n r=[r]:=by
  cases n with
  | zero=>rfl
  | succ n=>unfold chF; rw[h]
theorem rF {a:RR} {r y:aH} (h:aM a r=some y) (n:Nat):chF a (n+1) r=r::chF a n y:=by
  rw[chF,h]
/-- a plane's rides,as they are found; n: how many there may be -/
structure ChI (a:RR) (f:aH→Int) (rides:List aH) (r:aH) (pre:List aH) (z:aH):Prop where
  eq:pre.length≤rides.length∧chF a rides.length r=pre++chF a (rides.length - pre.length) z
  up:∀q∈pre,f q<f z
  pw:pre.Pairwise fun q r=>f q<f r
  sub:∀q∈pre,q∈rides
  z:z∈rides
theorem ChI.len {a:RR} {f:aH→Int} {rides:List aH} {r z:aH} {pre:List aH} (h:ChI a f rides r pre z):pre.length+1≤rides.length:=by
  have nd:(pre++[z]).Nodup:=by
    rw[List.nodup_append]
    refine ⟨h.pw.imp fun {x y} hxy e=>by rw[e] at hxy; omega,by simp,fun u hu v hv e=>?_⟩
    have h1:=h.up u hu
    rw[e,List.mem_singleton.mp hv] at h1
    omega
  have:=cX nd (m:=rides) fun q hq=>(List.mem_append.mp hq).elim (h.sub q) fun e=>by rw[List.mem_singleton.mp e]; exact h.z
  simpa using this
theorem ChI.go {a:RR} {f:aH→Int} {rides:List aH} {r z y:aH} {pre:List aH} (h:ChI a f rides r pre z) (e:aM a z=some y) (hf:f z<f y) (hy:y∈rides):ChI a f rides r (pre++[z]) y:=by
  have hl:=h.len
  refine ⟨⟨by simpa using hl,?_⟩,fun q hq=>?_,?_,fun q hq=>?_,hy⟩
  · rw[h.eq.2,show rides.length - pre.length=rides.length - (pre.length+1)+1 by omega,rF e]
    simp
  · rcases List.mem_append.mp hq with hq|hq
    · have:=h.up q hq; omega
    · rw[List.mem_singleton.mp hq]; exact hf
  · rw[List.pairwise_append]
    exact ⟨h.pw,by simp,fun u hu v hv=>by rw[List.mem_singleton.mp hv]; exact h.up u hu⟩
  · rcases List.mem_append.mp hq with hq|hq
    · exact h.sub q hq
    · rw[List.mem_singleton.mp hq]; exact h.z
theorem ChI.done {a:RR} {f:aH→Int} {rides:List aH} {r z:aH} {pre:List aH} (h:ChI a f rides r pre z) (e:aM a z=none):chF a rides.length r=pre++[z]:=by
  rw[h.eq.2,rE e]
def chD (a:RR) (n:Nat) (r:aH):D:=.tpn ((chF a n r).map aE)
structure CaI (S:Sto) (p:MaP) (rides:List aH) (b a:RR) (pre:List aH) (env:En) (S':Sto):Prop where
  ex:∃(T:Sto) (x2 x3:Option D),env=[some (.loc p.m),some (.loc S.length),x2,x3]∧S'=S++(.lst ((pre.filter fun r=>(aM b r).isNone).map (chD a rides.length))::T)
structure CaW (S0:Sto) (p:MaP) (rides:List aH) (a:RR) (f:aH→Int) (r:aH) (n:Nat) (l:Nat) (k:Nat) (env:En) (S':Sto):Prop where
  ex:∃(pre:List aH) (z:aH),env=[some (.loc p.m),some (.loc l),some (aE r),some (.loc n)]∧S'=S0++[.lst ((pre++[z]).map aE)]∧ChI a f rides r pre z∧rides.length≤k+pre.length
structure CaE (S0:Sto) (p:MaP) (rides:List aH) (a:RR) (r:aH) (n l:Nat) (env:En) (S':Sto):Prop where
  ex:env=[some (.loc p.m),some (.loc l),some (aE r),some (.loc n)]∧S'=S0++[.lst ((chF a rides.length r).map aE)]
section
variable {S:Sto} {p:MaP} {rides:List aH} {N:aH→List aH} {b a:RR}
theorem uu (f:aH→Int) (h:MtA S p rides N b a) (hl:rides.length≤100000) (hf:∀x y,aM a x=some y→f x<f y∧y∈rides) :
    Res.wp (b5 [.loc p.m] S) (fun v S'=>v=.loc S.length∧∃T,S'=S++(.lst ((rides.filter fun r=>(aM b r).isNone).map (chD a rides.length))::T)) NoE:=by
  have m0:=h.m
  have c0:=h.c
  have hA:∀T:Sto,MtA (S++T) p rides N b a:=fun T=>⟨h.ok,ae h.m _,ae h.c _,ae h.n _,ae h.b _,ae h.a _⟩
  have mT:∀T:Sto,(S++T)[p.m]?=_:=fun T=>ae m0 T
  have hit:∀T:Sto,bI (S++T) (.loc p.c)=some (.live p.c):=fun T=>by simp[bI,ae c0 T]
  unfold b5
  apply aW
  unfold gF
  simp -dsimp [mT,hit]
  refine ja (f:=aE) rides (fun pre _=>CaI S p rides b a pre) ?_ ?_ ?_ ?_
  · rintro pre rest env S1 e ⟨T,x2,x3,rfl,rfl⟩
    exact ae c0 _
  · exact ⟨[],none,none,rfl,rfl⟩
  · rintro pre r rest env S1 e ⟨T,x2,x3,rfl,rfl⟩
    refine ⟨_,rfl,?_⟩
    have hr:r∈rides:=by rw[←e]; simp
    have hpl:pre.length<rides.length:=by rw[←e]; simp
    have ib:=fun T=>(hA T).inB r
    cases hb:aM b r with
    | some x=>
      rw[hb] at ib
      simp -dsimp [mT,ib]
      exact ⟨T,_,_,rfl,by simp[hb]⟩
    | none=>
      rw[hb] at ib
      simp -dsimp [mT,ib]
      obtain ⟨S0,hS0⟩:∃S0,S0=S++(.lst ((pre.filter fun r=>(aM b r).isNone).map (chD a rides.length))::T):=⟨_,rfl⟩
      have e0:(S++(.lst ((pre.filter fun r=>(aM b r).isNone).map (chD a rides.length))::(T++[.lst [aE r]])))=S0++[.lst [aE r]]:=by rw[hS0]; simp
      have en:S.length+(T.length+1)=S0.length:=by rw[hS0]; simp
      rw[e0,en]
      have hA0:∀X:Sto,MtA (S0++X) p rides N b a:=fun X=>by rw[hS0,List.append_assoc]; exact hA _
      have m1:∀X:Sto,(S0++X)[p.m]?=_:=fun X=>(hA0 X).m
      refine mF (qJ (N:=CaE S0 p rides a r S0.length S.length) (fun k=>CaW S0 p rides a f r S0.length S.length k) ?_ kq rides.length _ _ (by unfold kq; omega) ⟨[],r,rfl,rfl,⟨⟨by simp,by simp⟩,nofun,.nil,nofun,hr⟩,by simp⟩) (fun e1 S1 hf=>?_) (fun _ _ z=>z)
      · rintro k env S1 ⟨pr,z,rfl,rfl,I,hk⟩
        have hI:=I.len
        have q0:(S0++[O.lst ((pr++[z]).map aE)])[S0.length]?=some (.lst ((pr++[z]).map aE)):=by simp
        have q:fIx (S0++[O.lst ((pr++[z]).map aE)]) (.loc S0.length) (.int (-1))=some (aE z):=by
          rw[xx q0]
          simp[atI,ixN]
          rw[if_pos (by omega)]
          show (List.map aE pr++[aE z])[(-1+((pr.length:Int)+1)).toNat]?=_
          rw[show (-1+((pr.length:Int)+1)).toNat=(List.map aE pr).length by simp; omega]
          simp
        have i1:=(hA0 [O.lst ((pr++[z]).map aE)]).inA z
        cases ha:aM a z with
        | none=>
          rw[ha] at i1
          simp -dsimp [q,m1,i1,-List.map_append]
          exact ⟨rfl,by rw[I.done ha]⟩
        | some y=>
          rw[ha] at i1
          obtain ⟨hlt,hy⟩:=hf z y ha
          have i2:=(hA0 [O.lst ((pr++[z]).map aE)]).ixA ha
          have ap:bD (S0++[O.lst ((pr++[z]).map aE)]) (.loc S0.length) [aE y]=some (.none,S0++[O.lst ((pr++[z]++[y]).map aE)]):=by
            unfold bD
            simp only[q0]
            rw[if_pos (by simp; omega)]
            simp
          simp -dsimp [q,m1,i1,i2,bn,q0,ap,-List.map_append]
          exact ⟨k - 1,by omega,pr++[z],y,rfl,by simp,I.go ha hlt hy,by simp; omega⟩
      · obtain ⟨rfl,rfl⟩:=hf
        obtain ⟨F,hF⟩:∃F,F=(pre.filter fun r=>(aM b r).isNone).map (chD a rides.length):=⟨_,rfl⟩
        rw[←hF] at hS0
        have q1:(S0++[O.lst ((chF a rides.length r).map aE)])[S.length]?=some (.lst F):=by rw[hS0]; simp
        have q2:(S0++[O.lst ((chF a rides.length r).map aE)])[S0.length]?=some (.lst ((chF a rides.length r).map aE)):=by simp
        have fl:F.length<1000000:=by
          rw[hF,List.length_map]
          have:=List.length_filter_le (fun r=>(aM b r).isNone) pre
          omega
        have ap:bD (S0++[O.lst ((chF a rides.length r).map aE)]) (.loc S.length) [chD a rides.length r]=some (.none,S++(.lst (F++[chD a rides.length r])::(T++[O.lst ((chF a rides.length r).map aE)]))):=by
          unfold bD
          simp only[q1]
          rw[if_pos fl,hS0]
          simp
        unfold chD at ap
        have cl:(chF a rides.length r).length≤1000000:=by
          have:=lV a rides.length r
          omega
        have ft:iu (S0++[O.lst ((chF a rides.length r).map aE)]) [.loc S0.length]=some (.tpn ((chF a rides.length r).map aE)):=by
          simp[iu,q2]
        simp -dsimp [bn,q1,ft,ap,cl]
        exact ⟨T++[O.lst ((chF a rides.length r).map aE)],_,_,rfl,by rw[hF]; simp[hb,chD]⟩
  · rintro env S1 ⟨T,x2,x3,rfl,rfl⟩
    simp -dsimp
end
end DL
namespace DL
open PySem PySem.Spec PyProof.Rows L2 LamX
theorem jB {ls:List Leg} (nd:(ls.map (·.num)).Nodup) (first:Int) (n:Nat):(aw ls first n).Nodup:=by
  have key:∀n,((af ls first n).map fun t=>(t.2.2,t.2.1)).Nodup:=by
    intro n
    induction n with
    | zero=>simp[af]
    | succ n ih=>
      rw[mj,List.map_append,List.nodup_append]
      refine ⟨ih,?_,fun u hu v hv e=>?_⟩
      · rw[List.map_map]
        have:((ls.filter fun l=>decide ((first+n) % 7∈l.days)).map (·.num)).Nodup:=nd.sublist (List.filter_sublist.map _)
        rw[List.Nodup,List.pairwise_map] at this
        exact List.pairwise_map.mpr (this.imp fun {x y} h e=>h (congrArg Prod.snd e))
      · obtain ⟨t,ht,rfl⟩:=List.mem_map.mp hu
        obtain ⟨i,hi,l,hl,hd,rfl⟩:=mem_raw.mp ht
        rw[List.mem_map] at hv
        obtain ⟨t2,ht2,e2⟩:=hv
        obtain ⟨l2,hl2,rfl⟩:=List.mem_map.mp ht2
        rw[←e2] at e
        have:=congrArg Prod.fst e
        simp at this
        omega
  have pm:(aw ls first n).Perm ((af ls first n).map fun t=>(t.2.2,t.2.1)):=(List.mergeSort_perm _ _).map _
  exact pm.nodup_iff.mpr (key n)
theorem wk {S S':Sto} (h:∀i,i<S.length→S'[i]?=S[i]?) (hl:S.length≤S'.length):∃T,S'=S++T:=by
  refine ⟨S'.drop S.length,?_⟩
  have e:S'.take S.length=S:=List.ext_getElem? fun i=>by
    rw[List.getElem?_take]
    split
    · rename_i hi
      exact h i hi
    · rename_i hi
      rw[List.getElem?_eq_none (by omega)]
  conv=>lhs; rw[←List.take_append_drop S.length S',e]
/-- what fewest tells and leaves -/
structure FwR (S:Sto) (rides:List aH) (N:aH→List aH) (v:D) (S':Sto):Prop where
  ex:∃(T:Sto) (c:Nat) (b a:RR) (E G L:List aH),S'=S++T∧v=.tup [.int (L.length:Nat),.loc c,.tpn (((cvT rides E G).mergeSort le3).map (tD true))]∧S.length≤c∧S'[c]?=some (.lst (L.map (chD a rides.length)))∧
    L=rides.filter (fun r=>(aM b r).isNone)∧Mxm N rides b a∧Wf rides b∧Wf rides a∧CvP rides N b a E G
section
variable {S:Sto} {ps:List (Str × Int)} {ls:List Leg} {turn first last:Int}
theorem gb (h0:0≤first) (h1:first≤last) (h2:last≤60):bp [.int first,.int last] S=.ok .none S:=by
  apply aT
  unfold bp
  apply aW
  unfold kw
  have h3:first≤60:=by omega
  simp -dsimp [h0,h1,h2,h3]
theorem ju (h:10≤turn∧turn≤300):cj [.int turn] S=.ok .none S:=by
  apply aT
  unfold cj
  apply aW
  unfold ky
  simp -dsimp [h]
theorem cf_lt (H:NetOk ps ls) (h:10≤turn) {x y:aH} (hx:HasLeg ls x.2) (e:cf ls turn x y=true):av ls x<av ls y:=by
  unfold cf at e
  rw[Bool.and_eq_true,decide_eq_true_eq,decide_eq_true_eq] at e
  have:=(H.legs _ (gK hx)).long
  have h2:=e.2
  unfold e6 oG at h2
  omega
theorem kM (H:NetOk ps ls) (ht:10≤turn∧turn≤300) (h0:0≤first) (h1:first≤last) (h2:last≤60) (hlen:(aw ls first (last+1 - first).toNat).length≤119) :
    Res.wp (dX [dH ps ls,.int turn,.int first,.int last] S) (FwR S (aw ls first (last+1 - first).toNat) (nxf ls turn (aw ls first (last+1 - first).toNat))) NoE:=by
  obtain ⟨rides,hrd⟩:∃rides,rides=aw ls first (last+1 - first).toNat:=⟨_,rfl⟩
  obtain ⟨S1,hS1⟩:∃S1,S1=S++jr S.length ps ls:=⟨_,rfl⟩
  have NA:NetAt S1 S.length ps ls:=by rw[hS1]; exact kL
  have e:=gZ (S:=S1) NA H.nd H.len (fun l hl=>by have ok:=H.legs l hl; have:=iE ok.dlt ok.dbd; omega) h0 h1 h2
  have hnd:rides.Nodup:=by rw[hrd]; exact jB H.nd first _
  have hleg:∀r∈rides,HasLeg ls r.2:=fun r hr=>by
    rw[hrd] at hr
    exact ((dG H.nd).mp hr).2.2.1
  rw[←hrd] at e hlen ⊢
  obtain ⟨S2,hS2⟩:∃S2,S2=S1++[O.lst (rides.map aE)]:=⟨_,rfl⟩
  rw[←hS2] at e
  have NA2:NetAt S2 S.length ps ls:=by rw[hS2]; exact NA.app _
  have hc:S2[S1.length]?=some (.lst (rides.map aE)):=by rw[hS2]; simp
  obtain ⟨c0,g0,q1,q2,q3⟩:=NA.ex
  have mi:=pL (turn:=turn) H NA2 hc hleg hnd hlen
  unfold dX
  apply aW
  unfold qu
  simp -dsimp [pJ H,←hS1,ju ht,gb h0 h1 h2,q1,e]
  refine cV mi ?_
  rintro v S3 ⟨rfl,b,a,A,k,kl,wb,wa,M⟩
  simp -dsimp
  have m0:=A.m
  have m0:S3[S2.length]?=_:=A.m
  have hf:∀x y,aM a x=some y→av ls x<av ls y∧y∈rides:=fun x y e=>by
    have hx:x∈rides:=M.k x (by rw[e]; rfl)
    obtain ⟨h4,h5⟩:=List.mem_filter.mp (M.g y x ((M.m y x).mpr e))
    exact ⟨cf_lt H ht.1 (hleg x hx) h5,h4⟩
  have cw:=uu (b:=b) (av ls) A (by omega) hf
  simp -dsimp [m0]
  refine cV cw ?_
  rintro v S4 ⟨rfl,T4,rfl⟩
  obtain ⟨L,hL⟩:∃L,L=rides.filter fun r=>(aM b r).isNone:=⟨_,rfl⟩
  rw[←hL]
  have m1:(S3++(O.lst (L.map (chD a rides.length))::T4))[S2.length]?=_:=ae m0 _
  have g1:(S3++(O.lst (L.map (chD a rides.length))::T4))[S3.length]?=some (.lst (L.map (chD a rides.length))):=by simp
  have fl:=jY g1
  rw[List.length_map] at fl
  have A4:MtA (S3++(O.lst (L.map (chD a rides.length))::T4)) ⟨S2.length,S1.length,S2.length+1,S2.length+2,S2.length+3⟩ rides (nxf ls turn rides) b a:=⟨A.ok,ae A.m _,ae A.c _,ae A.n _,ae A.b _,ae A.a _⟩
  have hN:∀x∈rides,∀y∈nxf ls turn rides x,y∈rides:=fun x _ y hy=>(List.mem_filter.mp hy).1
  have vw:=wj A4 hN hnd (by omega) wb M
  simp -dsimp [m1,fl]
  refine cV vw ?_
  rintro v S5 ⟨⟨T5,rfl⟩,E,G,P,rfl⟩
  simp -dsimp
  obtain ⟨T3,rfl⟩:=wk k kl
  have hSl:S.length≤(S2++T3).length:=by rw[hS2,hS1]; simp
  refine ⟨_,(S2++T3).length,b,a,E,G,L,by rw[hS2,hS1]; simp only[List.append_assoc]; rfl,rfl,hSl,by simp,hL,M,wb,wa,P⟩
end
end DL
namespace DL
open PySem PySem.Spec PyProof.Rows L2 LamX
/-- things that are no ends -/
def oddE:List D:=[.tup [.bool true,.tup [.int 0,.int 100]],.tup [.int 0,.lst [.int 0,.int 100]],.tup [.int 0,.tup [.bool true,.int 100]],.tup [.int 1,.tup [.bool false,.int 100]],.tup [.int 0,.tup [.bool true,.int 13]],.none,.tup [.int 0],.str "x"]
/-- what a cover may hold -/
def CovE (d:D):Prop:=(∃t:T3,d=tD true t)∨d∈oddE
/-- whether it is an end -/
def isE (rides:List aH) (d:D):Bool:=match qS true d with
  | some t=>decide ((t.1=0∨t.1=1)∧t.2∈rides)
  | none=>false
theorem pO (t:T3):qS true (tD true t)=some t:=rfl
theorem wm {d:D} (h:d∈oddE):qS true d=none:=by
  unfold oddE at h
  simp only[List.mem_cons,List.not_mem_nil,or_false] at h
  rcases h with rfl|rfl|rfl|rfl|rfl|rfl|rfl|rfl<;>rfl
def numB:D→Bool
  | .int n=>dD (.int n) 0 n
  | _=>false
section
variable {S:Sto} {rides:List aH} {d v:D}
theorem rG (h:LV S v (rides.map aE)) (r:aH):dIn S (aE r) v=some (decide (r∈rides)):=by
  unfold dIn
  rw[h.view]
  have h1:dok 60 (.lst (rides.map aE))=true:=rideEnc.lst.dok 60 _ (by omega)
  have h2:dok 60 (aE r)=true:=rideEnc.dok 60 _ (by omega)
  simp only[h1,h2,Bool.and_self,if_true,List.any_map]
  congr 1
  rw[Bool.eq_iff_iff,List.any_eq_true,decide_eq_true_eq]
  constructor
  · rintro ⟨q,hq,e⟩
    have:=(rideEnc.peq q r).mp e
    exact this▸hq
  · intro hr
    exact ⟨r,hr,(rideEnc.peq r r).mpr rfl⟩
theorem yR (h:LV S v (rides.map aE)) (hd:dok 60 d=true):∃b,dIn S d v=some b:=by
  unfold dIn
  rw[h.view]
  have h1:dok 60 (.lst (rides.map aE))=true:=rideEnc.lst.dok 60 _ (by omega)
  simp only[h1,hd,Bool.and_self,if_true]
  exact ⟨_,rfl⟩
theorem uv (h:LV S v (rides.map aE)) (hp:∀r∈rides,0≤r.1∧0≤r.2) (hd:CovE d):h7 [d,v] S=.ok (.bool (isE rides d)) S:=by
  apply aT
  unfold h7
  rcases hd with ⟨⟨e,x,n⟩,rfl⟩|hd
  · apply aW
    unfold dY
    have hi:=rG h (x,n)
    have hn:aO [.int e,.int 0,.int 1] S=_:=fm (t:="int") 0 1 rfl
    have hx:aO [.int x,.int 0,.int x] S=_:=fm (t:="int") 0 x rfl
    have hnn:aO [.int n,.int 0,.int n] S=_:=fm (t:="int") 0 n rfl
    unfold aE at hi
    have heq:isE rides (tD true (e,x,n))=decide ((e=0∨e=1)∧(x,n)∈rides):=rfl
    rw[heq]
    simp -dsimp [tD,hn,dD,cK]
    by_cases he:e<0∨1<e
    · have:¬((e=0∨e=1)∧(x,n)∈rides):=fun h=>by omega
      simp -dsimp [he,this]
    · have he2:e=0∨e=1:=by omega
      have e1:¬e<0:=by omega
      have e2:¬1<e:=by omega
      by_cases hr:(x,n)∈rides
      · have hpr:=hp _ hr
        simp -dsimp [e1,e2,tD,hi,hr,he2]
        refine ar (f:=D.int) [x,n] (fun _=>true) (fun i=>.bool (dD (.int i) 0 i)) rfl (by simp) (fun i hi=>⟨_,rfl,rfl,fun _=>?_⟩) ?_
        · have hx:aO [.int i,.int 0,.int i] S=_:=fm (t:="int") 0 i rfl
          apply aT
          simp -dsimp [hx]
        · have a1:dD (.int x) 0 x=true:=by simp[dD,hpr.1]
          have a2:dD (.int n) 0 n=true:=by simp[dD,hpr.2]
          have fa:=iz S [true,true]
          simp -dsimp [a1,a2,j3,fX]
          exact ⟨he2,hr⟩
      · simp -dsimp [e1,e2,tD,hi,hr]
  · have hne:isE rides d=false:=by unfold isE; rw[wm hd]
    rw[hne]
    have q1:aO [.bool true,.int 0,.int 1] S=_:=fm (t:="bool") 0 1 rfl
    have q2:aO [.int 0,.int 0,.int 1] S=_:=fm (t:="int") 0 1 rfl
    have q3:aO [.int 1,.int 0,.int 1] S=_:=fm (t:="int") 0 1 rfl
    have bad:∀(b:Bool) (n:Int) (e:Int),(e=0∨e=1)→dok 60 (.tup [.bool b,.int n])=true→Res.wp (ay 1 dY [.tup [.int e,.tup [.bool b,.int n]],v] S) (fun a S'=>a=.bool false∧S'=S) NoE:=by
      intro b n e he hdk
      obtain ⟨c,hc⟩:=yR h hdk
      have q4:aO [.int e,.int 0,.int 1] S=_:=fm (t:="int") 0 1 rfl
      apply aW
      unfold dY
      have e1:¬e<0:=by omega
      have e2:¬1<e:=by omega
      simp -dsimp [q4,dD,cK,e1,e2,hc]
      cases c with
      | false=>simp -dsimp
      | true=>
        simp -dsimp
        refine ar (f:=id) [D.bool b,D.int n] (fun _=>true) (fun d=>.bool (numB d)) rfl (by simp) (fun d hd=>⟨_,rfl,rfl,fun _=>?_⟩) ?_
        · simp only[List.mem_cons,List.not_mem_nil,or_false] at hd
          rcases hd with rfl|rfl
          · have hx:aO [.bool b,.int 0,.bool b] S=.ok (.bool false) S:=by simp[aO,eI,cK]
            apply aT
            simp -dsimp [hx,numB]
          · have hx:aO [.int n,.int 0,.int n] S=_:=fm (t:="int") 0 n rfl
            apply aT
            simp -dsimp [hx,numB]
        · simp -dsimp [j3,fX,numB]
    unfold oddE at hd
    simp only[List.mem_cons,List.not_mem_nil,or_false] at hd
    rcases hd with rfl|rfl|rfl|rfl|rfl|rfl|rfl|rfl
    · apply aW
      unfold dY
      simp -dsimp [q1,dD,cK]
    · apply aW
      unfold dY
      simp -dsimp [q2,dD,cK]
    · exact bad true 100 0 (.inl rfl) (by decide +kernel)
    · exact bad false 100 1 (.inr rfl) (by decide +kernel)
    · exact bad true 13 0 (.inl rfl) (by decide +kernel)
    · apply aW
      unfold dY
      simp -dsimp [cK]
    · apply aW
      unfold dY
      simp -dsimp [cK]
    · apply aW
      unfold dY
      simp -dsimp [cK]
end
end DL
namespace DL
open PySem PySem.Spec PyProof.Rows L2 LamX
/-- all two of them -/
def coup (rides:List aH):List (aH × aH):=rides.flatMap fun x=>rides.map fun y=>(x,y)
end DL
namespace DL
open PySem PySem.Spec PyProof.Rows L2 LamX
def TV (v:D) (cs:List D):Prop:=v=.tup cs∨v=.tpn cs
theorem TV.view {S:Sto} {v:D} {cs:List D} (h:TV v cs):view S v=.tup cs:=by rcases h with rfl|rfl<;>rfl
theorem TV.len {S:Sto} {v:D} {cs:List D} (h:TV v cs):cg S [v]=some (.int (cs.length:Nat)):=by rcases h with rfl|rfl<;>rfl
theorem TV.iter {S:Sto} {v:D} {cs:List D} (h:TV v cs):bI S v=some (.items cs):=by rcases h with rfl|rfl<;>rfl
theorem TV.isi {S:Sto} {v:D} {cs:List D} (h:TV v cs):cK S [v,.ty "tuple"]=some (.bool true):=by rcases h with rfl|rfl<;>simp[cK]
theorem TV.seq {S:Sto} {v:D} {cs:List D} (h:TV v cs):iX S v=some cs:=by unfold iX; rw[h.view]
theorem sg {d:D} {t:T3} (h:qS true d=some t):d=tD true t:=(nw h).1
theorem tEnc:Enc 2 (tD true):=Enc.pair Enc.int rideEnc
/-- what a cover holds,as numbers -/
def tsC (cs:List D):List T3:=cs.filterMap (qS true)
theorem pP:∀ts:List T3,tsC (ts.map (tD true))=ts
  | []=>rfl
  | t::ts=>by
    unfold tsC
    rw[List.map_cons,List.filterMap_cons_some (pO t)]
    exact congrArg (t::·) (pP ts)
theorem kN:∀ts:List T3,gj true (ts.map (tD true))=some ts
  | []=>rfl
  | t::ts=>by
    rw[List.map_cons]
    unfold gj
    rw[kN ts,pO t]
theorem rH {rides:List aH}:∀ {cs:List D},cs.all (isE rides)=true→cs=(tsC cs).map (tD true)∧∀t∈tsC cs,(t.1=0∨t.1=1)∧t.2∈rides
  | [],_=>⟨rfl,nofun⟩
  | d::cs,h=>by
    rw[List.all_cons,Bool.and_eq_true] at h
    obtain ⟨h1,h2⟩:=h
    obtain ⟨e1,e2⟩:=rH h2
    unfold isE at h1
    split at h1
    · rename_i t ht
      have e0:=sg ht
      have e3:tsC (d::cs)=t::tsC cs:=by unfold tsC; rw[List.filterMap_cons_some ht]
      rw[e3]
      refine ⟨by rw[List.map_cons,←e1,e0],fun u hu=>?_⟩
      rcases List.mem_cons.mp hu with rfl|hu
      · exact of_decide_eq_true h1
      · exact e2 u hu
    · cases h1
def covB (ls:List Leg) (turn:Int) (rides:List aH) (ts:List T3):Bool:=(coup rides).all fun q=>!cf ls turn q.1 q.2||(decide (((0:Int),q.1)∈ts)||decide (((1:Int),q.2)∈ts))
/-- what is to be told of a cover -/
def shD (ls:List Leg) (turn:Int) (rides:List aH) (cs:List D):D:=
  if cs.all (isE rides)=true∧(bJ (tsC cs)).length=cs.length∧covB ls turn rides (tsC cs)=true then .int ((rides.length:Int) - (cs.length:Int)) else .none
theorem fAll_p {α:Type} (S:Sto) (p:α→Bool) (xs:List α):j3 S [.lst (xs.map fun y=>.bool (p y))]=some (.bool (xs.all p)):=by
  have:=iz S (xs.map p)
  rw[List.map_map] at this
  have e:(xs.map fun y=>D.bool (p y))=xs.map (D.bool∘p):=rfl
  rw[e,this]
  simp[Function.comp_def]
theorem wq {rides:List aH} {ts:List T3} (hl:rides.length≤119) (h:∀t∈ts,(t.1=0∨t.1=1)∧t.2∈rides):(bJ ts).length≤305:=by
  have:=cX (wK (gE ts)) (m:=(rides.map fun r=>((0:Int),r))++rides.map fun r=>((1:Int),r)) fun t ht=>by
    obtain ⟨h1,h2⟩:=h t ((gD ts).mp ht)
    obtain ⟨e,r⟩:=t
    rw[List.mem_append,List.mem_map,List.mem_map]
    rcases h1 with h1|h1
    · exact .inl ⟨r,h2,by rw[←h1]⟩
    · exact .inr ⟨r,h2,by rw[←h1]⟩
  rw[List.length_append,List.length_map,List.length_map] at this
  omega
theorem wt {S:Sto} {v:D} {ts:List T3} (h:TV v (ts.map (tD true))) (t:T3):dIn S (tD true t) v=some (decide (t∈ts)):=by
  unfold dIn
  rw[h.view]
  have h1:dok 60 (.tup (ts.map (tD true)))=true:=tEnc.tup.dok 60 ts (by omega)
  have h2:dok 60 (tD true t)=true:=tEnc.dok 60 t (by omega)
  simp only[h1,h2,Bool.and_self,if_true,List.any_map]
  congr 1
  rw[Bool.eq_iff_iff,List.any_eq_true,decide_eq_true_eq]
  constructor
  · rintro ⟨q,hq,e⟩
    have:=(tEnc.peq q t).mp e
    exact this▸hq
  · intro hr
    exact ⟨t,hr,(tEnc.peq t t).mpr rfl⟩
structure ShO (S1:Sto) (ls:List Leg) (turn:Int) (rides:List aH) (ts:List T3) (d0 d1 d2 d3 d4 d5 d6:D) (pre:List aH) (env:En) (S:Sto):Prop where
  ex:∃x7 x8 x9,env=[some d0,some d1,some d2,some d3,some d4,some d5,some d6,x7,x8,x9]∧S=S1∧∀x∈pre,∀y∈rides,cf ls turn x y=true→((0:Int),x)∈ts∨((1:Int),y)∈ts
structure ShI (S1:Sto) (ls:List Leg) (turn:Int) (rides:List aH) (ts:List T3) (d0 d1 d2 d3 d4 d5 d6:D) (pre:List aH) (x:aH) (pr:List aH) (env:En) (S:Sto):Prop where
  ex:∃x8 x9,env=[some d0,some d1,some d2,some d3,some d4,some d5,some d6,some (aE x),x8,x9]∧S=S1∧(∀x∈pre,∀y∈rides,cf ls turn x y=true→((0:Int),x)∈ts∨((1:Int),y)∈ts)∧∀y∈pr,cf ls turn x y=true→((0:Int),x)∈ts∨((1:Int),y)∈ts
theorem covB_iff {ls:List Leg} {turn:Int} {rides:List aH} {ts:List T3}:covB ls turn rides ts=true↔∀x∈rides,∀y∈rides,cf ls turn x y=true→((0:Int),x)∈ts∨((1:Int),y)∈ts:=by
  unfold covB coup
  rw[List.all_eq_true]
  constructor
  · intro h x hx y hy hc
    have:=h (x,y) (List.mem_flatMap.mpr ⟨x,hx,List.mem_map.mpr ⟨y,hy,rfl⟩⟩)
    simpa [hc] using this
  · rintro h ⟨x,y⟩ hq
    obtain ⟨x',hx,hq⟩:=List.mem_flatMap.mp hq
    obtain ⟨y',hy,e⟩:=List.mem_map.mp hq
    cases e
    cases hc:cf ls turn x y with
    | false=>rfl
    | true=>simpa [hc] using h x hx y hy hc
section
variable {S:Sto} {ps:List (Str × Int)} {ls:List Leg} {turn first last:Int} {v:D} {cs:List D}
theorem wu (H:NetOk ps ls) (ht:10≤turn∧turn≤300) (h0:0≤first) (h1:first≤last) (h2:last≤60) (hlen:(aw ls first (last+1 - first).toNat).length≤119) (hv:TV v cs) (hcs:∀d∈cs,CovE d) (hcl:cs.length≤1000) :
    Res.wp (bc [dH ps ls,.int turn,.int first,.int last,v] S) (fun r S'=>r=shD ls turn (aw ls first (last+1 - first).toNat) cs∧∃T,S'=S++T) NoE:=by
  obtain ⟨rides,hrd⟩:∃rides,rides=aw ls first (last+1 - first).toNat:=⟨_,rfl⟩
  obtain ⟨S1,hS1⟩:∃S1,S1=S++jr S.length ps ls:=⟨_,rfl⟩
  have NA:NetAt S1 S.length ps ls:=by rw[hS1]; exact kL
  have e:=gZ (S:=S1) NA H.nd H.len (fun l hl=>by have ok:=H.legs l hl; have:=iE ok.dlt ok.dbd; omega) h0 h1 h2
  have hleg:∀r∈rides,HasLeg ls r.2∧0≤r.1∧0≤r.2:=fun r hr=>by
    rw[hrd] at hr
    obtain ⟨q1,q2,q3,q4⟩:=(dG H.nd).mp hr
    have:=(H.legs _ (gK q3)).num
    rw[oF q3] at this
    exact ⟨q3,by omega,by omega⟩
  rw[←hrd] at e hlen ⊢
  obtain ⟨S2,hS2⟩:∃S2,S2=S1++[O.lst (rides.map aE)]:=⟨_,rfl⟩
  rw[←hS2] at e
  have NA2:NetAt S2 S.length ps ls:=by rw[hS2]; exact NA.app _
  have hc:S2[S1.length]?=some (.lst (rides.map aE)):=by rw[hS2]; simp
  have hT:∃T,S2=S++T:=⟨_,by rw[hS2,hS1,List.append_assoc]⟩
  obtain ⟨c0,g0,q1,q2,q3⟩:=NA.ex
  have hit:=hv.iter (S:=S2)
  have hisi:=hv.isi (S:=S2)
  have hlv:LV S2 (.loc S1.length) (rides.map aE):=.loc hc
  unfold bc
  apply aW
  unfold h8
  simp -dsimp [pJ H,←hS1,ju ht,gb h0 h1 h2,q1,e,hisi,hit]
  refine ar (f:=id) cs (fun _=>true) (fun d=>.bool (isE rides d)) (by simp) (by omega) (fun d hd=>⟨_,rfl,rfl,fun _=>?_⟩) ?_
  · have:=uv hlv (fun r hr=>(hleg r hr).2) (hcs d hd)
    apply aT
    simp -dsimp [this]
  rw[cH]
  have fa:=fAll_p S2 (isE rides) cs
  cases hall:cs.all (isE rides) with
  | false=>
    rw[hall] at fa
    have:shD ls turn rides cs=.none:=by unfold shD; rw[if_neg (by rw[hall]; simp)]
    simp -dsimp [fa,this]
    exact hT
  | true=>
    rw[hall] at fa
    obtain ⟨em,hts⟩:=rH hall
    obtain ⟨ts,hte⟩:∃ts,ts=tsC cs:=⟨_,rfl⟩
    rw[←hte] at em hts
    have hsq:=hv.seq (S:=S2)
    have h3s:gj true cs=some ts:=by rw[em]; exact kN ts
    have h305:=wq hlen hts
    have hfl:=hv.len (S:=S2)
    have hle:=(ub (ns:=ts)).1
    have hcl2:ts.length=cs.length:=by rw[em,List.length_map]
    simp -dsimp [fa,hsq,h3s,h305,hfl]
    by_cases hn:(bJ ts).length<cs.length
    · have:shD ls turn rides cs=.none:=by unfold shD; rw[if_neg (by rw[←hte]; omega)]
      simp -dsimp [hn,this]
      exact hT
    · have hn2:(bJ ts).length=cs.length:=by omega
      have hcov:TV v (ts.map (tD true)):=by rw[←em]; exact hv
      have itL:bI S2 (.loc S1.length)=some (.live S1.length):=by simp[bI,hc]
      have hlr:cg S2 [.loc S1.length]=some (.int (rides.length:Nat)):=by
        have:=jY hc
        rwa [List.length_map] at this
      simp -dsimp [hn,itL]
      refine ja (f:=aE) rides (fun pre _=>ShO S2 ls turn rides ts (dH ps ls) (.int turn) (.int first) (.int last) v (.loc S.length) (.loc S1.length) pre) ?_ ⟨none,none,none,rfl,rfl,nofun⟩ ?_ ?_
      · rintro pre rest env S3 e1 ⟨x7,x8,x9,rfl,rfl,_⟩
        exact hc
      · rintro pre x rest env S3 e1 ⟨x7,x8,x9,rfl,rfl,hp⟩
        refine ⟨_,rfl,?_⟩
        have hx:x∈rides:=by rw[←e1]; simp
        simp -dsimp [itL]
        refine ja (f:=aE) rides (fun pr _=>ShI S3 ls turn rides ts (dH ps ls) (.int turn) (.int first) (.int last) v (.loc S.length) (.loc S1.length) pre x pr) ?_ ⟨x8,x9,rfl,rfl,hp,nofun⟩ ?_ ?_
        · rintro pr rest2 env S4 e2 ⟨x8,x9,rfl,rfl,_⟩
          exact hc
        · rintro pr y rest2 env S4 e2 ⟨x8,x9,rfl,rfl,hp,hq⟩
          refine ⟨_,rfl,?_⟩
          have hy:y∈rides:=by rw[←e2]; simp
          have ec:=ic (turn:=turn) H NA2 (hleg x hx).1 (hleg y hy).1
          have i0:dIn S4 (.tup [.int 0,aE x]) v=_:=wt hcov ((0:Int),x)
          have i1:dIn S4 (.tup [.int 1,aE y]) v=_:=wt hcov ((1:Int),y)
          cases hcf:cf ls turn x y with
          | false=>
            rw[hcf] at ec
            simp -dsimp [ec]
            refine ⟨_,_,rfl,rfl,hp,fun z hz hzc=>?_⟩
            rcases List.mem_append.mp hz with hz|hz
            · exact hq z hz hzc
            · rw[List.mem_singleton.mp hz,hcf] at hzc
              cases hzc
          | true=>
            rw[hcf] at ec
            by_cases b0:((0:Int),x)∈ts
            · simp -dsimp [ec,i0,b0]
              refine ⟨_,_,rfl,rfl,hp,fun z hz hzc=>?_⟩
              exact .inl b0
            · by_cases b1:((1:Int),y)∈ts
              · simp -dsimp [ec,i0,b0,i1,b1]
                refine ⟨_,_,rfl,rfl,hp,fun z hz hzc=>?_⟩
                rcases List.mem_append.mp hz with hz|hz
                · exact hq z hz hzc
                · rw[List.mem_singleton.mp hz]; exact .inr b1
              · have hno:shD ls turn rides cs=.none:=by
                  unfold shD
                  rw[if_neg]
                  rintro ⟨_,_,h⟩
                  rw[←hte] at h
                  rcases covB_iff.mp h x hx y hy hcf with h|h
                  · exact b0 h
                  · exact b1 h
                simp -dsimp [ec,i0,b0,i1,b1,hno]
                exact hT
        · rintro env S4 ⟨x8,x9,rfl,rfl,hp,hq⟩
          refine ⟨_,_,_,rfl,rfl,fun z hz=>?_⟩
          rcases List.mem_append.mp hz with hz|hz
          · exact hp z hz
          · rw[List.mem_singleton.mp hz]; exact hq
      · rintro env S3 ⟨x7,x8,x9,rfl,rfl,hp⟩
        have hyes:shD ls turn rides cs=.int ((rides.length:Int) - (cs.length:Int)):=by
          unfold shD
          rw[if_pos ⟨hall,by rw[←hte]; exact hn2,by rw[←hte]; exact covB_iff.mpr hp⟩]
        have hfl3:=hv.len (S:=S3)
        simp -dsimp [hlr,hfl3,hyes]
        exact hT
end
end DL
namespace DL
open PySem PySem.Spec PyProof.Rows L2 LamX
theorem kO {α β:Type} {f:α→β}:∀ {l:List α},l.Nodup→(∀x∈l,∀y∈l,f x=f y→x=y)→(l.map f).Nodup
  | [],_,_=>.nil
  | x::l,nd,h=>by
    rw[List.nodup_cons] at nd
    rw[List.map_cons,List.nodup_cons]
    refine ⟨fun hm=>?_,kO nd.2 fun y hy z hz=>h y (List.mem_cons_of_mem _ hy) z (List.mem_cons_of_mem _ hz)⟩
    obtain ⟨y,hy,e⟩:=List.mem_map.mp hm
    exact nd.1 (h y (List.mem_cons_of_mem _ hy) x List.mem_cons_self e▸hy)
section
variable {N:aH→List aH} {rides:List aH} {b a:RR} {E G:List aH}
theorem fS {y:aH} (h:y∈b.map (·.1)):∃x,aM b y=some x:=by
  cases e:aM b y with
  | none=>exact absurd h (lookR_none.mp e)
  | some x=>exact ⟨x,rfl⟩
theorem jv {y x:aH} (h:aM b y=some x):y∈b.map (·.1):=List.mem_map.mpr ⟨(y,x),jA h,rfl⟩
/-- no ride is ahead of two -/
def Inj (b:RR):Prop:=∀y z x,aM b y=some x→aM b z=some x→y=z
theorem Mtc.inj (M:Mtc b a):Inj b:=fun y z x h1 h2=>by
  have q1:=(M y x).mp h1
  have q2:=(M z x).mp h2
  rw[q1] at q2
  exact Option.some.inj q2
/-- a matching is no greater than what meets all pairs -/
theorem dual {ts:List T3} (M:Inj b) (G:Edg N b) (wb:Wf rides b) (cov:∀x∈rides,∀y∈N x,((0:Int),x)∈ts∨((1:Int),y)∈ts):b.length≤ts.length:=by
  obtain ⟨g,hg⟩:∃g:aH→T3,g=fun y=>if ((0:Int),(aM b y).getD (0,0))∈ts then ((0:Int),(aM b y).getD (0,0)) else ((1:Int),y):=⟨_,rfl⟩
  have key:((b.map (·.1)).map g).Nodup:=by
    refine kO wb.nd fun y1 h1 y2 h2 e=>?_
    obtain ⟨x1,e1⟩:=fS h1
    obtain ⟨x2,e2⟩:=fS h2
    rw[hg] at e
    simp only[e1,e2,Option.getD_some] at e
    split at e
    · split at e
      · have:x1=x2:=congrArg Prod.snd e
        subst this
        exact M y1 y2 x1 e1 e2
      · have:=congrArg Prod.fst e
        simp at this
    · split at e
      · have:=congrArg Prod.fst e
        simp at this
      · exact congrArg Prod.snd e
  have:=cX key (m:=ts) fun t ht=>by
    obtain ⟨y,hy,rfl⟩:=List.mem_map.mp ht
    obtain ⟨x,e⟩:=fS hy
    rw[hg]
    simp only[e,Option.getD_some]
    split
    · assumption
    · rename_i hn
      exact (cov x (wb.look e) y (G y x e)).resolve_left hn
  simpa using this
theorem cvT_mem {t:T3}:t∈cvT rides E G↔(t.1=0∧t.2∈rides∧t.2∉E)∨(t.1=1∧t.2∈rides∧t.2∈G):=by
  obtain ⟨e,r⟩:=t
  unfold cvT
  rw[List.mem_append,List.mem_map,List.mem_map]
  constructor
  · rintro (⟨q,h,e1⟩|⟨q,h,e1⟩)
    · cases e1
      obtain ⟨h1,h2⟩:=List.mem_filter.mp h
      exact .inl ⟨rfl,h1,by simpa using h2⟩
    · cases e1
      obtain ⟨h1,h2⟩:=List.mem_filter.mp h
      exact .inr ⟨rfl,h1,by simpa using h2⟩
  · rintro (⟨h1,h2,h3⟩|⟨h1,h2,h3⟩)
    · simp only at h1
      subst h1
      exact .inl ⟨r,List.mem_filter.mpr ⟨h2,by simpa using h3⟩,rfl⟩
    · simp only at h1
      subst h1
      exact .inr ⟨r,List.mem_filter.mpr ⟨h2,by simpa using h3⟩,rfl⟩
theorem si (nd:rides.Nodup):(cvT rides E G).Nodup:=by
  unfold cvT
  rw[List.nodup_append]
  refine ⟨kO (nd.filter _) fun x _ y _ e=>congrArg Prod.snd e,kO (nd.filter _) fun x _ y _ e=>congrArg Prod.snd e,fun u hu v hv e=>?_⟩
  obtain ⟨x,_,rfl⟩:=List.mem_map.mp hu
  obtain ⟨y,_,rfl⟩:=List.mem_map.mp hv
  have:=congrArg Prod.fst e
  simp at this
theorem cv_le (P:CvP rides N b a E G) (M:Mtc b a) (nd:rides.Nodup):(cvT rides E G).length≤b.length:=by
  obtain ⟨g,hg⟩:∃g:T3→aH,g=fun t=>if t.1=0 then (aM a t.2).getD (0,0) else t.2:=⟨_,rfl⟩
  have mat:∀x∈rides,x∉E→∃y,aM a x=some y:=fun x hx hE=>by
    cases e:aM a x with
    | none=>exact absurd (P.un x hx e) hE
    | some y=>exact ⟨y,rfl⟩
  have key:((cvT rides E G).map g).Nodup:=by
    refine kO (si nd) fun t h1 u h2 e=>?_
    obtain ⟨t1,t2⟩:=t
    obtain ⟨u1,u2⟩:=u
    rw[hg] at e
    rcases cvT_mem.mp h1 with ⟨a1,a2,a3⟩|⟨a1,a2,a3⟩
    · simp only at a1 a2 a3
      subst a1
      obtain ⟨y,ey⟩:=mat t2 a2 a3
      rcases cvT_mem.mp h2 with ⟨b1,b2,b3⟩|⟨b1,b2,b3⟩
      · simp only at b1 b2 b3
        subst b1
        obtain ⟨z,ez⟩:=mat u2 b2 b3
        simp[ey,ez] at e
        subst e
        have q1:=(M y t2).mpr ey
        have q2:=(M y u2).mpr ez
        rw[q1] at q2
        rw[Option.some.inj q2]
      · simp only at b1 b2 b3
        subst b1
        simp[ey] at e
        subst e
        obtain ⟨x,hx,ex⟩:=P.bk y b3
        have q1:=(M y t2).mpr ey
        rw[q1] at ex
        exact absurd (Option.some.inj ex▸hx) a3
    · simp only at a1 a2 a3
      subst a1
      rcases cvT_mem.mp h2 with ⟨b1,b2,b3⟩|⟨b1,b2,b3⟩
      · simp only at b1 b2 b3
        subst b1
        obtain ⟨z,ez⟩:=mat u2 b2 b3
        simp[ez] at e
        subst e
        obtain ⟨x,hx,ex⟩:=P.bk t2 a3
        have q1:=(M t2 u2).mpr ez
        rw[q1] at ex
        exact absurd (Option.some.inj ex▸hx) b3
      · simp only at b1 b2 b3
        subst b1
        simp at e
        rw[e]
  have:=cX key (m:=b.map (·.1)) fun y hy=>by
    obtain ⟨t,ht,rfl⟩:=List.mem_map.mp hy
    obtain ⟨t1,t2⟩:=t
    rw[hg]
    rcases cvT_mem.mp ht with ⟨a1,a2,a3⟩|⟨a1,a2,a3⟩
    · simp only at a1 a2 a3
      subst a1
      obtain ⟨y,ey⟩:=mat t2 a2 a3
      simp only[if_true,ey,Option.getD_some]
      exact jv ((M y t2).mpr ey)
    · simp only at a1 a2 a3
      subst a1
      obtain ⟨x,hx,ex⟩:=P.bk t2 a3
      simp only[show ¬((1:Int)=0) by omega,if_false]
      exact jv ex
  simpa using this
theorem sj (P:CvP rides N b a E G) (hN:∀x∈rides,∀y∈N x,y∈rides):∀x∈rides,∀y∈N x,((0:Int),x)∈cvT rides E G∨((1:Int),y)∈cvT rides E G:=fun x hx y hy=>by
  by_cases h:x∈E
  · exact .inr (cvT_mem.mpr (.inr ⟨rfl,hN x hx y hy,P.cl x h y hy⟩))
  · exact .inl (cvT_mem.mpr (.inl ⟨rfl,hx,h⟩))
theorem cv_len (P:CvP rides N b a E G) (M:Mtc b a) (g:Edg N b) (wb:Wf rides b) (nd:rides.Nodup) (hN:∀x∈rides,∀y∈N x,y∈rides):(cvT rides E G).length=b.length:=
  Nat.le_antisymm (cv_le P M nd) (dual M.inj g wb (sj P hN))
/-- none is greater -/
theorem uL {b2 a2:RR} (X:Mxm N rides b2 a2) (w2:Wf rides b2) (nd:rides.Nodup) (hN:∀x∈rides,∀y∈N x,y∈rides) (M:Inj b) (g:Edg N b) (wb:Wf rides b):b.length≤b2.length:=by
  classical
  have P:CvP rides N b2 a2 (rides.filter fun x=>decide (Und N b2 x)) (rides.filter fun y=>decide (∃L R,Cls N b2 L R∧R y)):=by
    refine ⟨nd.filter _,fun e he=>(List.mem_filter.mp he).1,nd.filter _,fun e he=>(List.mem_filter.mp he).1,fun r hr hn=>List.mem_filter.mpr ⟨hr,decide_eq_true (X.c r hr hn)⟩,fun e he y hy=>?_,fun y hy=>?_⟩
    · obtain ⟨h1,h2⟩:=List.mem_filter.mp he
      obtain ⟨L,R,C,hL⟩:=of_decide_eq_true h2
      exact List.mem_filter.mpr ⟨hN e h1 y hy,decide_eq_true ⟨L,R,C,C.out e hL y hy⟩⟩
    · obtain ⟨h1,h2⟩:=List.mem_filter.mp hy
      obtain ⟨L,R,C,hR⟩:=of_decide_eq_true h2
      obtain ⟨x,h3,h4⟩:=C.back y hR
      exact ⟨x,List.mem_filter.mpr ⟨w2.look h4,decide_eq_true ⟨L,R,C,h3⟩⟩,h4⟩
  exact Nat.le_trans (dual M g wb (sj P hN)) (cv_le P X.m nd)
theorem gc {α:Type} (p:α→Bool):∀l:List α,l.length=(l.filter p).length+(l.filter fun x=>!p x).length
  | []=>rfl
  | x::l=>by
    have:=gc p l
    cases h:p x<;>simp[h]<;>omega
/-- as many as are behind one -/
theorem ww {ac:List aH} (M:Mtc b a) (wb:Wf rides b) (nd:ac.Nodup) (h:∀z,z∈ac↔(aM a z).isSome=true):ac.length=b.length:=by
  have vn:((b.map (·.1)).map fun y=>(aM b y).getD (0,0)).Nodup:=kO wb.nd fun y hy z hz e=>by
    obtain ⟨x1,e1⟩:=fS hy
    obtain ⟨x2,e2⟩:=fS hz
    simp only[e1,e2,Option.getD_some] at e
    subst e
    exact M.inj y z x1 e1 e2
  have:=((List.perm_ext_iff_of_nodup nd vn).mpr fun z=>?_).length_eq
  · rw[List.length_map,List.length_map] at this
    exact this
  · rw[h z,List.mem_map]
    constructor
    · intro hz
      obtain ⟨y,ey⟩:=Option.isSome_iff_exists.mp hz
      have eb:=(M y z).mpr ey
      exact ⟨y,jv eb,by rw[eb]; rfl⟩
    · rintro ⟨y,hy,e⟩
      obtain ⟨x,ex⟩:=fS hy
      rw[ex,Option.getD_some] at e
      subst e
      rw[(M y x).mp ex]
      rfl
/-- how many have none ahead -/
theorem jC (wb:Wf rides b) (nd:rides.Nodup):(rides.filter fun r=>(aM b r).isNone).length+b.length=rides.length:=by
  have h1:=gc (fun r=>(aM b r).isNone) rides
  have pm:(rides.filter fun r=>!(aM b r).isNone).Perm (b.map (·.1)):=(List.perm_ext_iff_of_nodup (nd.filter _) wb.nd).mpr fun y=>by
    rw[List.mem_filter]
    constructor
    · rintro ⟨_,h⟩
      cases e:aM b y with
      | none=>rw[e] at h; cases h
      | some x=>exact jv e
    · intro h
      obtain ⟨x,e⟩:=fS h
      obtain ⟨p,hp,rfl⟩:=List.mem_map.mp h
      exact ⟨wb.ks p hp,by rw[e]; rfl⟩
  have:=pm.length_eq
  rw[List.length_map] at this
  omega
end
section
variable {rides:List aH} {b a:RR} {f:aH→Int} {r:aH}
theorem iH (a:RR) (n:Nat) (r:aH):(chF a n r)[0]?=some r:=by
  cases n with
  | zero=>rfl
  | succ n=>
    unfold chF
    split<;>rfl
theorem mm (a:RR):∀(n:Nat) (r:aH) (k:Nat) (x y:aH),(chF a n r)[k]?=some x→(chF a n r)[k+1]?=some y→aM a x=some y
  | 0,r,k,x,y,_,h2=>by simp[chF] at h2
  | n+1,r,k,x,y,h1,h2=>by
    cases hz:aM a r with
    | none=>
      rw[rE hz] at h2
      simp at h2
    | some z=>
      rw[rF hz] at h1 h2
      cases k with
      | zero=>
        simp only[List.getElem?_cons_zero,Option.some.injEq] at h1
        subst h1
        rw[List.getElem?_cons_succ,iH] at h2
        cases h2
        exact hz
      | succ k=>
        rw[List.getElem?_cons_succ] at h1 h2
        exact mm a n z k x y h1 h2
theorem gM (a:RR):∀(n:Nat) (r:aH),∀q∈chF a n r,q=r∨∃z∈chF a n r,aM a z=some q
  | 0,r,q,h=>by simp[chF] at h; exact .inl h
  | n+1,r,q,h=>by
    unfold chF at h ⊢
    split at h
    · simp at h
      exact .inl h
    · rename_i z hz
      rcases List.mem_cons.mp h with h|h
      · exact .inl h
      · rcases gM a n z q h with rfl|⟨w,hw,e⟩
        · exact .inr ⟨r,List.mem_cons_self,hz⟩
        · exact .inr ⟨w,List.mem_cons_of_mem _ hw,e⟩
theorem yS (hf:∀x y,aM a x=some y→f x<f y∧y∈rides):∀(k:Nat) (pre:List aH) (z:aH),ChI a f rides r pre z→rides.length≤k+pre.length→∃pre' z',ChI a f rides r pre' z'∧aM a z'=none:=by
  intro k
  induction k with
  | zero=>
    intro pre z h hl
    have:=h.len
    omega
  | succ k ih=>
    intro pre z h hl
    cases e:aM a z with
    | none=>exact ⟨pre,z,h,e⟩
    | some y=>exact ih (pre++[z]) y (h.go e (hf z y e).1 (hf z y e).2) (by simp; omega)
structure ChOk (a:RR) (f:aH→Int) (rides:List aH) (r:aH):Prop where
  pw:(chF a rides.length r).Pairwise fun q r=>f q<f r
  sub:∀q∈chF a rides.length r,q∈rides
  cl:∀q∈chF a rides.length r,∀y,aM a q=some y→y∈chF a rides.length r
theorem kP (hf:∀x y,aM a x=some y→f x<f y∧y∈rides) (hr:r∈rides):ChOk a f rides r:=by
  obtain ⟨pre,z,I,e⟩:=yS (r:=r) hf rides.length [] r ⟨⟨by simp,by simp⟩,nofun,.nil,nofun,hr⟩ (by simp)
  have ed:=I.done e
  refine ⟨?_,fun q hq=>?_,fun q hq y hy=>?_⟩
  · rw[ed,List.pairwise_append]
    exact ⟨I.pw,by simp,fun u hu v hv=>by rw[List.mem_singleton.mp hv]; exact I.up u hu⟩
  · rw[ed] at hq
    rcases List.mem_append.mp hq with hq|hq
    · exact I.sub q hq
    · rw[List.mem_singleton.mp hq]; exact I.z
  · obtain ⟨i,hi,eq⟩:=List.getElem_of_mem hq
    have g1:(chF a rides.length r)[i]?=some q:=by rw[List.getElem?_eq_getElem hi,eq]
    by_cases h:i+1<(chF a rides.length r).length
    · have g2:=List.getElem?_eq_getElem h
      have:=mm a _ r i q _ g1 g2
      rw[hy] at this
      rw[Option.some.inj this]
      exact List.getElem_mem h
    · exfalso
      have hl:i=pre.length:=by
        have:(chF a rides.length r).length=pre.length+1:=by rw[ed]; simp
        omega
      rw[ed,hl] at g1
      simp at g1
      subst g1
      rw[e] at hy
      cases hy
/-- all rides,each once -/
theorem rJ (M:Mtc b a) (nd:rides.Nodup) (wb:Wf rides b) (hf:∀x y,aM a x=some y→f x<f y∧y∈rides):((rides.filter fun r=>(aM b r).isNone).flatMap (chF a rides.length)).Perm rides:=by
  have uniq:∀(k:Nat) (q r1 r2:aH),(rides.filter fun z=>decide (f z<f q)).length≤k→r1∈rides→r2∈rides→aM b r1=none→aM b r2=none→q∈chF a rides.length r1→q∈chF a rides.length r2→r1=r2:=by
    intro k
    induction k with
    | zero=>
      intro q r1 r2 hk m1 m2 h1 h2 q1 q2
      rcases gM a _ r1 q q1 with e1|⟨z,hz,e1⟩
      · rcases gM a _ r2 q q2 with e2|⟨w,hw,e2⟩
        · rw[←e1,e2]
        · rw[e1] at e2
          rw[(M r1 w).mpr e2] at h1
          cases h1
      · have hlt:=(hf z q e1).1
        have:z∈rides.filter fun z=>decide (f z<f q):=List.mem_filter.mpr ⟨(kP hf m1).sub z hz,by simpa using hlt⟩
        have:=List.length_pos_of_mem this
        omega
    | succ k ih=>
      intro q r1 r2 hk m1 m2 h1 h2 q1 q2
      rcases gM a _ r1 q q1 with e1|⟨z,hz,e1⟩
      · rcases gM a _ r2 q q2 with e2|⟨w,hw,e2⟩
        · rw[←e1,e2]
        · rw[e1] at e2
          rw[(M r1 w).mpr e2] at h1
          cases h1
      · rcases gM a _ r2 q q2 with e2|⟨w,hw,e2⟩
        · rw[e2] at e1
          rw[(M r2 z).mpr e1] at h2
          cases h2
        · have hzw:z=w:=by
            have p1:=(M q z).mpr e1
            have p2:=(M q w).mpr e2
            rw[p1] at p2
            exact Option.some.inj p2
          subst hzw
          refine ih z r1 r2 ?_ m1 m2 h1 h2 hz hw
          have hlt:=(hf z q e1).1
          have hzr:=(kP hf m1).sub z hz
          have h3:(z::rides.filter fun u=>decide (f u<f z)).length≤(rides.filter fun u=>decide (f u<f q)).length:=cX (List.nodup_cons.mpr ⟨fun h=>by simp at h,nd.filter _⟩) fun u hu=>by
            rcases List.mem_cons.mp hu with rfl|hu
            · exact List.mem_filter.mpr ⟨hzr,by simpa using hlt⟩
            · obtain ⟨p1,p2⟩:=List.mem_filter.mp hu
              have p2:f u<f z:=by simpa using p2
              exact List.mem_filter.mpr ⟨p1,by simp; omega⟩
          rw[List.length_cons] at h3
          omega
  have all:∀(k:Nat) (q:aH),(rides.filter fun z=>decide (f z<f q)).length≤k→q∈rides→∃r∈rides,aM b r=none∧q∈chF a rides.length r:=by
    intro k
    induction k with
    | zero=>
      intro q hk hq
      cases e:aM b q with
      | none=>exact ⟨q,hq,e,List.mem_of_getElem? (iH a _ q)⟩
      | some z=>
        have hlt:=(hf z q ((M q z).mp e)).1
        have:z∈rides.filter fun z=>decide (f z<f q):=List.mem_filter.mpr ⟨wb.look e,by simpa using hlt⟩
        have:=List.length_pos_of_mem this
        omega
    | succ k ih=>
      intro q hk hq
      cases e:aM b q with
      | none=>exact ⟨q,hq,e,List.mem_of_getElem? (iH a _ q)⟩
      | some z=>
        have ez:=(M q z).mp e
        have hlt:=(hf z q ez).1
        have hzr:=wb.look e
        have h3:(z::rides.filter fun u=>decide (f u<f z)).length≤(rides.filter fun u=>decide (f u<f q)).length:=cX (List.nodup_cons.mpr ⟨fun h=>by simp at h,nd.filter _⟩) fun u hu=>by
          rcases List.mem_cons.mp hu with rfl|hu
          · exact List.mem_filter.mpr ⟨hzr,by simpa using hlt⟩
          · obtain ⟨p1,p2⟩:=List.mem_filter.mp hu
            have p2:f u<f z:=by simpa using p2
            exact List.mem_filter.mpr ⟨p1,by simp; omega⟩
        rw[List.length_cons] at h3
        obtain ⟨r,h4,h5,h6⟩:=ih z (by omega) hzr
        exact ⟨r,h4,h5,(kP hf h4).cl z h6 q ez⟩
  have hmem:∀r,r∈(rides.filter fun r=>(aM b r).isNone)↔r∈rides∧aM b r=none:=fun r=>by
    rw[List.mem_filter]
    simp
  refine (List.perm_ext_iff_of_nodup ?_ nd).mpr fun q=>?_
  · rw[List.Nodup,List.pairwise_flatMap]
    refine ⟨fun r hr=>(kP hf ((hmem r).mp hr).1).pw.imp fun {x y} h e=>by rw[e] at h; omega,?_⟩
    refine (List.Pairwise.imp_of_mem (fun {r1 r2} h1 h2 hne=>?_) (nd.filter fun r=>(aM b r).isNone))
    intro x hx y hy e
    subst e
    obtain ⟨m1,n1⟩:=(hmem r1).mp h1
    obtain ⟨m2,n2⟩:=(hmem r2).mp h2
    exact hne (uniq _ x r1 r2 (Nat.le_refl _) m1 m2 n1 n2 hx hy)
  · rw[List.mem_flatMap]
    constructor
    · rintro ⟨r,hr,hq⟩
      exact (kP hf ((hmem r).mp hr).1).sub q hq
    · intro hq
      obtain ⟨r,h1,h2,h3⟩:=all _ q (Nat.le_refl _) hq
      exact ⟨r,(hmem r).mpr ⟨h1,h2⟩,h3⟩
end
end DL
namespace DL
open PySem PySem.Spec PyProof.Rows L2 LamX
structure LwA (S:Sto) (n l:Nat) (rides:List aH) (N:aH→List aH) (b:RR):Prop where
  ne:n≠l
  n:S[n]?=some (.dct true (rides.map fun x=>(aE x,.lst ((N x).map aE))))
  b:S[l]?=some (.dct true (rrK b))
structure LwR (S:Sto) (n l:Nat) (rides:List aH) (N:aH→List aH) (t:Nat) (b a:RR) (x:aH) (met:List aH) (v:D) (S':Sto):Prop where
  ex:∃(r:Bool) (met':List aH) (b' a':RR),v=.bool r∧LwA S' n l rides N b'∧S'[t]?=some (.lst (met'.map aE))∧Fr [t,l] S S'∧met'.Nodup∧(∀y∈met',y∈rides)∧Wf rides b'∧
    (r=false→b'=b∧GrF N b x met met')∧(r=true→GrT N b a x met b' a')
structure LwL (S:Sto) (n l:Nat) (rides:List aH) (N:aH→List aH) (t:Nat) (b:RR) (x:aH) (met pre:List aH) (env:En) (S':Sto):Prop where
  ex:∃(m0:List aH) (e3:Option D),env=[some (.loc n),some (aE x),some (.loc t),some (.loc l),e3]∧LwA S' n l rides N b∧S'[t]?=some (.lst (m0.map aE))∧Fr [t,l] S S'∧m0.Nodup∧(∀y∈m0,y∈rides)∧GrI N b pre met m0
section
variable {n l:Nat} {rides:List aH} {N:aH→List aH} {t:Nat}
theorem LwA.nexts {S:Sto} {b:RR} (h:LwA S n l rides N b) {x:aH} (hx:x∈rides):fIx S (.loc n) (aE x)=some (.lst ((N x).map aE)):=by
  rw[jX h.n,bh,if_pos rfl]
  have e:=iQ (rides.map fun x=>(x,N x)) (fun l=>D.lst (l.map aE)) x
  rw[List.map_map] at e
  have e2:(rides.map fun x=>(aE x,D.lst ((N x).map aE)))=rides.map ((fun p:aH × List aH=>(aE p.1,D.lst (p.2.map aE)))∘fun x=>(x,N x)):=rfl
  rw[e2,e]
  have:aM (rides.map fun x=>(x,N x)) x=some (N x):=by
    unfold aM
    rw[List.find?_map,Option.map_map]
    have h2:(rides.find? ((fun p:aH × List aH=>decide (p.1=x))∘fun x=>(x,N x))).isSome=true:=List.find?_isSome.mpr ⟨x,hx,by simp⟩
    obtain ⟨q,hq⟩:=Option.isSome_iff_exists.mp h2
    have h3:=List.find?_some hq
    simp at h3
    subst h3
    rw[hq]
    rfl
  rw[this]
  rfl
theorem yT {S:Sto} {t:Nat} {m:List aH} (h:S[t]?=some (.lst (m.map aE))) (hl:m.length<1000000) (y:aH):bD S (.loc t) [aE y]=some (.none,S.set t (.lst ((m++[y]).map aE))):=by
  unfold bD
  simp only[h]
  rw[if_pos (by simpa using hl)]
  simp
theorem lw_wp (hN:∀x∈rides,∀y∈N x,y∈rides) (hl:rides.length≤100000) (tn:t≠n) (tl:t≠l):∀(k:Nat) (S:Sto) (x:aH) (met:List aH) (b a:RR),LwA S n l rides N b→S[t]?=some (.lst (met.map aE))→x∈rides→met.Nodup→(∀y∈met,y∈rides)→Wf rides b→
    Mtc b a→Edg N b→(∀y,aM a x=some y→y∈met)→rides.length<met.length+k→Res.wp (bZ k [.loc n,aE x,.loc t,.loc l] S) (LwR S n l rides N t b a x met) NoE:=by
  intro k
  induction k with
  | zero=>
    intro S x met b a h hm hx nd hs wb M G hax hn
    have:=cX nd hs
    omega
  | succ k ih=>
    intro S x met b a h hm hx nd hs wb M G hax hn
    have hbl:=wb.len
    unfold bZ
    apply aW
    have e1:=h.nexts hx
    simp -dsimp [e1]
    refine eU (f:=aE) (N x) (fun pre _=>LwL S n l rides N t b x met pre) rfl ⟨met,none,rfl,h,hm,.refl _ _,nd,hs,.start⟩ ?_ ?_
    · rintro pre y rest env S1 hp ⟨m0,e3,rfl,h1,hm1,f1,nd1,hs1,I⟩
      refine ⟨_,rfl,?_⟩
      have hyN:y∈N x:=by rw[←hp]; simp
      have hy:=hN x hx y hyN
      have i1:=rG (.loc hm1) y
      have hml:=cX nd1 hs1
      by_cases hym:y∈m0
      · simp -dsimp [i1,hym]
        exact ⟨m0,_,rfl,h1,hm1,f1,nd1,hs1,I.old hym⟩
      · have p1:=yT hm1 (by omega) y
        simp -dsimp [i1,hym,bn,hm1,p1,-List.map_append]
        have htl:=(List.getElem?_eq_some_iff.mp hm1).1
        have f2:Fr [t,l] S1 (S1.set t (.lst ((m0++[y]).map aE))):=.set (by simp) _
        have h2:LwA (S1.set t (.lst ((m0++[y]).map aE))) n l rides N b:=⟨h1.ne,by rw[List.getElem?_set_ne tn]; exact h1.n,by rw[List.getElem?_set_ne tl]; exact h1.b⟩
        have hm2:(S1.set t (.lst ((m0++[y]).map aE)))[t]?=some (.lst ((m0++[y]).map aE)):=by rw[List.getElem?_set_self htl]
        have f3:Fr [t,l] S (S1.set t (.lst ((m0++[y]).map aE))):=f1.trans f2
        generalize S1.set t (.lst ((m0++[y]).map aE))=S2 at h2 hm2 f3 ⊢
        have i2:dIn S2 (aE y) (.loc l)=some (aM b y).isSome:=by rw[lU h2.b,bh,if_pos rfl,gL,Option.isSome_map]
        have nd2:(m0++[y]).Nodup:=by
          rw[List.nodup_append]
          exact ⟨nd1,by simp,fun u hu w hw e=>hym (by rw[←List.mem_singleton.mp hw,←e]; exact hu)⟩
        have hs2:∀z∈m0++[y],z∈rides:=fun z hz=>(List.mem_append.mp hz).elim (hs1 z) fun e=>by rw[List.mem_singleton.mp e]; exact hy
        have fin:∀(S3:Sto) (b1 a1:RR) (m3:List aH),LwA S3 n l rides N b1→S3[t]?=some (.lst (m3.map aE))→Fr [t,l] S S3→m3.Nodup→(∀z∈m3,z∈rides)→Wf rides b1→GrT N b a x met (iG b1 y x) (iG a1 x y)→
            ∃S4,bM S3 (.loc l) (aE y) (aE x)=some S4∧LwR S n l rides N t b a x met (.bool true) S4:=by
          intro S3 b1 a1 m3 k1 k2 k3 k4 k5 k6 k8
          have l6:=k6.len
          have lb:=(List.getElem?_eq_some_iff.mp k1.b).1
          have hl2:(rrK b1).length<1000000:=by unfold rrK; simp; omega
          refine ⟨S3.set l (.dct true (rrK (iG b1 y x))),by simp[bM,k1.b,hl2,pK],true,m3,_,_,rfl,⟨k1.ne,by rw[List.getElem?_set_ne k1.ne.symm]; exact k1.n,by rw[List.getElem?_set_self lb]⟩,by rw[List.getElem?_set_ne tl.symm]; exact k2,k3.trans (.set (by simp) _),k4,k5,k6.put hy hx,nofun,fun _=>k8⟩
        cases hby:aM b y with
        | none=>
          obtain ⟨S4,r1,r4⟩:=fin S2 b a (m0++[y]) h2 hm2 f3 nd2 hs2 wb (.free M G hax hyN (fun z=>hym (I.sub y z)) hby)
          rw[hby] at i2
          simp -dsimp [i2,r1]
          exact r4
        | some x1=>
          have hx1:=wb.look hby
          have r0:fIx S2 (.loc l) (aE y)=some (aE x1):=by rw[jX h2.b,bh,if_pos rfl,gL,hby]; rfl
          rw[hby] at i2
          simp -dsimp [i2,r0]
          refine cV (ih S2 x1 (m0++[y]) b a h2 hm2 hx1 nd2 hs2 wb M G (fun z hz=>?_) (by have:=cX nd hs; have:=cX nd I.sub; simp; omega)) ?_
          · rw[(M y x1).mp hby] at hz
            cases hz
            simp
          · rintro v S3 ⟨r,m3,b1,a1,rfl,k1,k2,k3,k4,k5,k6,kf,kt⟩
            cases r with
            | false=>
              obtain ⟨eb,kf2⟩:=kf rfl
              rw[eb] at k1
              simp -dsimp
              exact ⟨m3,_,rfl,k1,k2,f3.trans k3,k4,k5,I.fail hby kf2⟩
            | true=>
              obtain ⟨S4,r1,r4⟩:=fin S3 b1 a1 m3 k1 k2 (f3.trans k3) k4 k5 k6 (.step M I.sub hax hyN hym hby (kt rfl))
              simp -dsimp [r1]
              exact r4
    · rintro env S1 ⟨m0,e3,rfl,h1,hm1,f1,nd1,hs1,I⟩
      simp -dsimp
      exact ⟨false,m0,b,a,rfl,h1,hm1,f1,nd1,hs1,wb,fun _=>⟨rfl,I.done⟩,nofun⟩
end
end DL
namespace DL
open PySem PySem.Spec PyProof.Rows L2 LamX
section
variable {S:Sto} {ps:List (Str × Int)} {ls:List Leg} {turn:Int} {x y:aH}
theorem mn (H:NetOk ps ls) (hx:HasLeg ls x.2) (hy:HasLeg ls y.2):dw [dH ps ls,.int turn,aE x,aE y] S=.ok (.bool (cf ls turn x y)) S:=by
  have l1:=i8 (ps:=ps) (S:=S) H.nd (by have:=H.len; omega) hx
  have l2:=i8 (ps:=ps) (S:=S) H.nd (by have:=H.len; omega) hy
  have l3:=m8 (ps:=ps) (S:=S) H.nd (by have:=H.len; omega) hx
  have l4:=gY (ps:=ps) (S:=S) H.nd (by have:=H.len; omega) hy
  have o1:=(jt H hx).2
  have o2:=(jt H hy).1
  apply aT
  unfold dw
  apply aW
  unfold oC
  simp -dsimp [l1,l2,l3,l4]
  simp -dsimp [Leg.d,l3,l4]
  unfold mZ at o1
  unfold i7 at o2
  simp -dsimp [o1,o2]
  have hcf:cf ls turn x y=(decide ((bR ls x.2).goal=(bR ls y.2).start)&&decide (e6 ls x+turn≤av ls y)):=rfl
  rw[hcf]
  by_cases h:(bR ls x.2).goal=(bR ls y.2).start
  · simp -dsimp [h,l3,l4]
  · simp -dsimp [h]
end
structure MnA (S0:Sto) (d0:D) (turn:Int) (rides:List aH) (N:aH→List aH) (pre:List aH) (env:En) (S:Sto):Prop where
  ex:∃x5 x6 x7,env=[some d0,some (.int turn),some (.lst (rides.map aE)),some (.loc S0.length),some (.loc (S0.length+1)),x5,x6,x7]∧S=S0++[.dct true (pre.map fun x=>(aE x,.lst ((N x).map aE))),.dct true []]
structure MnB (S0:Sto) (rides:List aH) (N:aH→List aH) (pre:List aH) (acc:List D) (S:Sto):Prop where
  ex:∃(b a:RR) (ac:List aH),acc=ac.map aE∧ac.Nodup∧(∀z,z∈ac↔(aM a z).isSome=true)∧LwA S S0.length (S0.length+1) rides N b∧(∀i,i<S0.length→S[i]?=S0[i]?)∧S0.length+2≤S.length∧Wf rides b∧Mxm N pre b a
structure MnR (S0:Sto) (rides:List aH) (N:aH→List aH) (v:D) (S:Sto):Prop where
  ex:∃b a T,v=.int ((rides.length:Int) - (b.length:Int))∧S=S0++T∧Wf rides b∧Mxm N rides b a
section
variable {S:Sto} {ps:List (Str × Int)} {ls:List Leg} {turn:Int} {rides:List aH}
theorem wx (H:NetOk ps ls) (hr:∀r∈rides,HasLeg ls r.2) (nd:rides.Nodup) (hl:rides.length≤119):Res.wp (eJ [dH ps ls,.int turn,.lst (rides.map aE)] S) (MnR S rides (nxf ls turn rides)) NoE:=by
  unfold eJ
  apply aW
  unfold lA
  simp -dsimp
  refine eU (f:=aE) rides (fun pre _=>MnA S (dH ps ls) turn rides (nxf ls turn rides) pre) rfl ⟨none,none,none,rfl,rfl⟩ ?_ ?_
  · rintro pre x rest env S1 e ⟨x5,x6,x7,rfl,rfl⟩
    refine ⟨_,rfl,?_⟩
    have hx:x∈rides:=by rw[←e]; simp
    have hxp:x∉pre:=fun z=>by
      rw[←e,List.nodup_append] at nd
      exact nd.2.2 x z x List.mem_cons_self rfl
    have hpl:pre.length<rides.length:=by rw[←e]; simp
    simp -dsimp
    refine ar (f:=aE) rides (fun y=>cf ls turn x y) aE rfl (by omega) (fun y hy=>⟨_,rfl,?_,fun _=>rfl⟩) ?_
    · have q:=mn (ps:=ps) (turn:=turn) (S:=S++[.dct true (pre.map fun x=>(aE x,.lst ((nxf ls turn rides x).map aE))),.dct true []]) H (hr x hx) (hr y hy)
      apply aT
      simp -dsimp [q]
    have pn:=rC (acc:=pre.map fun x=>(x,D.lst ((nxf ls turn rides x).map aE))) (r:=x) (v:=.lst ((nxf ls turn rides x).map aE)) (by rw[List.map_map]; simpa [Function.comp_def] using hxp)
    simp only[List.map_map,List.map_append,List.map_cons,List.map_nil,Function.comp_def] at pn
    have sp:bM (S++[.dct true (pre.map fun x=>(aE x,D.lst ((nxf ls turn rides x).map aE))),.dct true []]) (.loc S.length) (aE x) (.lst ((nxf ls turn rides x).map aE))=some (S++[.dct true ((pre++[x]).map fun x=>(aE x,D.lst ((nxf ls turn rides x).map aE))),.dct true []]):=by
      have g:(S++[O.dct true (pre.map fun x=>(aE x,D.lst ((nxf ls turn rides x).map aE))),.dct true []])[S.length]?=some (.dct true (pre.map fun x=>(aE x,D.lst ((nxf ls turn rides x).map aE)))):=by simp
      have hl2:(pre.map fun x=>(aE x,D.lst ((nxf ls turn rides x).map aE))).length<1000000:=by simp; omega
      unfold bM
      simp only[g,bh,hl2,and_self,if_true,pn]
      simp
    have sp2:=sp
    unfold nxf at sp2
    simp -dsimp [-List.map_append]
    unfold nxf
    rw[sp2]
    simp -dsimp [-List.map_append]
    exact ⟨_,_,_,rfl,rfl⟩
  · rintro env S1 ⟨x5,x6,x7,rfl,rfl⟩
    simp -dsimp
    refine jV (f:=aE) rides (fun pre _ acc S'=>MnB S rides (nxf ls turn rides) pre acc S') rfl ⟨[],[],[],rfl,.nil,fun z=>by simp[aM],⟨by simp,by simp,by simp[rrK]⟩,fun i hi=>by rw[List.getElem?_append_left hi],by simp,.nil,.nil⟩ ?_ ?_
    · rintro pre x rest acc S1 e ⟨b,a,ac,rfl,an,am,A,k,kl,wb,M⟩
      refine ⟨_,rfl,?_⟩
      have hx:x∈rides:=by rw[←e]; simp
      have hxp:x∉pre:=fun z=>by
        rw[←e,List.nodup_append] at nd
        exact nd.2.2 x z x List.mem_cons_self rfl
      have hxa:aM a x=none:=by
        cases q:aM a x with
        | none=>rfl
        | some y=>exact absurd (M.k x (by rw[q]; rfl)) hxp
      have hN:∀x∈rides,∀y∈nxf ls turn rides x,y∈rides:=fun x _ y hy=>(List.mem_filter.mp hy).1
      have A2:LwA (S1++[.lst []]) S.length (S.length+1) rides (nxf ls turn rides) b:=⟨A.ne,ae A.n _,ae A.b _⟩
      have gw:=lw_wp hN (by omega) (t:=S1.length) (by omega) (by omega) 120 (S1++[.lst []]) x [] b a A2 (by simp) hx .nil nofun wb M.m M.g (fun y hy=>by rw[hxa] at hy; cases hy) (by simp; omega)
      have acl:ac.length≤rides.length:=by
        have:=ww M.m wb an am
        have:=wb.len
        omega
      simp -dsimp
      refine cV gw ?_
      rintro v S2 ⟨r,m3,b1,a1,rfl,k1,k2,k3,k4,k5,k6,kf,kt⟩
      have hk:∀i,i<S.length→S2[i]?=S[i]?:=fun i hi=>by
        rw[k3.same i (by simp; omega),List.getElem?_append_left (by omega)]
        exact k i hi
      have hkl:S.length+2≤S2.length:=by rw[k3.len]; simp; omega
      cases r with
      | false=>
        obtain ⟨eb,kf2⟩:=kf rfl
        rw[eb] at k1 k6
        simp -dsimp
        exact ⟨b,a,ac,rfl,an,am,k1,hk,hkl,k6,M.no kf2⟩
      | true=>
        have t5:=(kt rfl).t5
        simp -dsimp
        refine ⟨by omega,b1,a1,ac++[x],by simp,?_,fun z=>?_,k1,hk,hkl,k6,M.yes hxp (kt rfl)⟩
        · rw[List.nodup_append]
          refine ⟨an,by simp,fun u hu v hv e=>?_⟩
          rw[List.mem_singleton.mp hv] at e
          subst e
          have:=(am u).mp hu
          rw[hxa] at this
          cases this
        · rw[t5 z,List.mem_append,am z,List.mem_singleton]
    · rintro acc S1 ⟨b,a,ac,rfl,an,am,A,k,kl,wb,M⟩
      have:=ww M.m wb an am
      simp -dsimp [this]
      obtain ⟨T,hT⟩:=wk k (by omega)
      exact ⟨b,a,T,rfl,hT,wb,M⟩
end
end DL
namespace DL
open PySem PySem.Spec PyProof.Rows L2 LamX
def leR (a b:Int × Int):Bool:=le3 (0,a.1,a.2) (0,b.1,b.2)
theorem wz (a b:Int × Int):dle (aE a) (aE b)=leR a b:=by
  have:=ny false (0,a.1,a.2) (0,b.1,b.2)
  exact this
theorem yU (a b:Int × Int):leR a b=true↔a.1<b.1∨(a.1=b.1∧a.2≤b.2):=by simp[leR,le3]
theorem uw (a b:Int × Int):(leR a b||leR b a)=true:=gA _ _
theorem ux {a b c:Int × Int} (h:leR a b=true) (h2:leR b c=true):leR a c=true:=gB h h2
theorem leR_pw (xs:List (Int × Int)):(xs.mergeSort leR).Pairwise fun a b=>leR a b=true:=List.pairwise_mergeSort (le:=leR) (fun _ _ _ h1 h2=>ux h1 h2) uw xs
theorem ge {S:Sto} {d:D} (xs:List aH) (h:dU S d=some (xs.map aE)) (hl:xs.length≤1000000):dW S [d]=some (.lst ((xs.mergeSort leR).map aE)):=
  j8 xs aE leR h (fun x=>rideEnc.dok 60 x (by omega)) (fun x y=>by simp[aE]) (fun x=>⟨_,_,rfl⟩) wz hl
theorem sk {xs ys:List aH} (h:xs.Perm ys) (nd:ys.Nodup):xs.mergeSort leR=ys.mergeSort leR:=by
  have inc:∀zs:List aH,zs.Nodup→Inc ((zs.mergeSort leR).map fun r=>((0:Int),r)):=fun zs hz=>by
    unfold Inc
    have hn:(zs.mergeSort leR).Nodup:=(List.mergeSort_perm zs leR).nodup_iff.mpr hz
    refine List.pairwise_map.mpr ((leR_pw zs).and hn |>.imp fun {a b} ⟨h1,h2⟩=>om h1 fun e=>h2 (congrArg Prod.snd e))
  have e:=sL (inc xs (h.nodup_iff.mpr nd)) (inc ys nd) fun t=>by
    rw[List.mem_map,List.mem_map]
    constructor
    · rintro ⟨r,hr,e⟩
      exact ⟨r,List.mem_mergeSort.mpr (h.mem_iff.mp (List.mem_mergeSort.mp hr)),e⟩
    · rintro ⟨r,hr,e⟩
      exact ⟨r,List.mem_mergeSort.mpr (h.mem_iff.mpr (List.mem_mergeSort.mp hr)),e⟩
  have inj:∀ {l m:List aH},(l.map fun r=>((0:Int),r))=m.map (fun r=>((0:Int),r))→l=m:=by
    intro l
    induction l with
    | nil=>intro m h; cases m with
      | nil=>rfl
      | cons _ _=>cases h
    | cons x l ih=>intro m h; cases m with
      | nil=>cases h
      | cons y m=>
        rw[List.map_cons,List.map_cons] at h
        injection h with h1 h2
        have h3:x=y:=congrArg Prod.snd h1
        rw[ih h2,h3]
  exact inj e
theorem pQ {ls:List Leg} (nd:(ls.map (·.num)).Nodup) (first:Int) (n:Nat):(aw ls first n).Pairwise fun x y=>leR (av ls x,x.2) (av ls y,y.2)=true:=by
  unfold aw
  refine List.pairwise_map.mpr ?_
  have pw:((af ls first n).mergeSort le3).Pairwise fun a b=>le3 a b=true:=List.pairwise_mergeSort (le:=le3) (fun _ _ _ h1 h2=>gB h1 h2) gA _
  refine List.Pairwise.imp_of_mem (fun {t u} ht hu h=>?_) pw
  have lv:∀t∈(af ls first n).mergeSort le3,t.1=av ls (t.2.2,t.2.1):=fun t ht=>by
    obtain ⟨i,hi,l,hl,hd,rfl⟩:=mem_raw.mp (List.mem_mergeSort.mp ht)
    simp only[av,iB nd hl]
    omega
  have e1:=lv t ht
  have e2:=lv u hu
  rw[yU]
  simp only[←e1,←e2]
  simp only[le3,decide_eq_true_eq] at h
  omega
/-- the firsts of chains stand in order -/
theorem m9 {rides:List aH} {ls:List Leg} (p:aH→Bool) (h:rides.Pairwise fun x y=>leR (av ls x,x.2) (av ls y,y.2)=true):(((rides.filter p).map fun r=>(av ls r,r.2)).mergeSort leR)=(rides.filter p).map fun r=>(av ls r,r.2):=by
  refine List.mergeSort_of_pairwise ?_
  exact List.pairwise_map.mpr (h.sublist List.filter_sublist)
theorem gd_inc {ts:List T3} (nd:ts.Nodup):Inc (ts.mergeSort le3):=by
  unfold Inc
  have hn:(ts.mergeSort le3).Nodup:=(List.mergeSort_perm ts le3).nodup_iff.mpr nd
  have pw:(ts.mergeSort le3).Pairwise fun a b=>le3 a b=true:=List.pairwise_mergeSort (le:=le3) (fun _ _ _ h1 h2=>gB h1 h2) gA _
  exact (pw.and hn).imp fun {a b} ⟨h1,h2⟩=>om h1 h2
theorem uM {ts:List T3} (nd:ts.Nodup):bJ (ts.mergeSort le3)=ts.mergeSort le3:=qU (gd_inc nd) fun _=>Iff.rfl
/-- what is told of the cover that fewest tells -/
theorem uy {ls:List Leg} {turn:Int} {rides:List aH} {b a:RR} {E G:List aH} (P:CvP rides (nxf ls turn rides) b a E G) (nd:rides.Nodup) :
    shD ls turn rides (((cvT rides E G).mergeSort le3).map (tD true))=.int ((rides.length:Int) - ((cvT rides E G).length:Int)):=by
  have hN:∀x∈rides,∀y∈nxf ls turn rides x,y∈rides:=fun x _ y hy=>(List.mem_filter.mp hy).1
  have hm:∀t,t∈(cvT rides E G).mergeSort le3↔t∈cvT rides E G:=fun t=>List.mem_mergeSort
  unfold shD
  rw[pP,if_pos,List.length_map,List.length_mergeSort]
  refine ⟨?_,by rw[uM (si nd),List.length_map],covB_iff.mpr fun x hx y hy hc=>?_⟩
  · rw[List.all_map,List.all_eq_true]
    intro t ht
    show isE rides (tD true t)=true
    unfold isE
    rw[pO]
    rcases cvT_mem.mp ((hm t).mp ht) with ⟨h1,h2,_⟩|⟨h1,h2,_⟩
    · exact decide_eq_true ⟨.inl h1,h2⟩
    · exact decide_eq_true ⟨.inr h1,h2⟩
  · have:=sj P hN x hx y (List.mem_filter.mpr ⟨hy,hc⟩)
    rw[hm,hm]
    exact this
end DL
namespace DL
open PySem PySem.Spec PyProof.Rows L2 LamX
theorem mq {α β:Type} [DecidableEq α]:∀ {l:List (α × β)} {q:α × β},(l.map (·.1)).Nodup→q∈l→(l.find? fun a=>decide (a.1=q.1))=some q
  | [],q,_,h=>by cases h
  | a::l,q,nd,h=>by
    rw[List.map_cons,List.nodup_cons] at nd
    rw[List.find?_cons]
    rcases List.mem_cons.mp h with rfl|h
    · simp
    · have:a.1≠q.1:=fun e=>nd.1 (e▸List.mem_map_of_mem h)
      simp only[this,decide_false]
      exact mq nd.2 h
section
variable {ls:List Leg} {turn turn' first:Int} {rides rides':List aH} {b a b' a':RR}
theorem yV (ht:turn≤turn') (nd:rides.Nodup) (X:Mxm (nxf ls turn rides) rides b a) (w:Wf rides b) (X':Mxm (nxf ls turn' rides) rides b' a') (w':Wf rides b'):b'.length≤b.length:=by
  refine uL X w nd (fun x _ y hy=>(List.mem_filter.mp hy).1) X'.m.inj (fun y x h=>?_) w'
  obtain ⟨h1,h2⟩:=List.mem_filter.mp (X'.g y x h)
  refine List.mem_filter.mpr ⟨h1,?_⟩
  unfold cf at h2 ⊢
  simp only[Bool.and_eq_true,decide_eq_true_eq] at h2 ⊢
  exact ⟨h2.1,by have:=h2.2; omega⟩
theorem yW (H:∀r∈rides',HasLeg ls r.2∧0≤(bR ls r.2).out∧(bR ls r.2).out<1440∧20≤(bR ls r.2).long) (ht:10≤turn) (nd:rides.Nodup) (nd':rides'.Nodup) {last:Int} (hs:∀r,r∈rides↔r∈rides'∧r.1≤last)
    (X:Mxm (nxf ls turn rides) rides b a) (w:Wf rides b) (X':Mxm (nxf ls turn rides') rides' b' a') (w':Wf rides' b'):rides.length+b'.length≤rides'.length+b.length:=by
  obtain ⟨bo,hbo⟩:∃bo,bo=b'.filter fun p=>decide (p.1∈rides):=⟨_,rfl⟩
  have lo:∀y x,aM bo y=some x→y∈rides∧aM b' y=some x:=fun y x h=>by
    have hm:=jA h
    rw[hbo] at hm
    obtain ⟨h1,h2⟩:=List.mem_filter.mp hm
    have h2:y∈rides:=by simpa using h2
    refine ⟨h2,?_⟩
    have:=mq (l:=b') w'.nd h1
    unfold aM
    rw[this]
    rfl
  have edge:∀y x,aM bo y=some x→x∈rides∧y∈nxf ls turn rides x:=fun y x h=>by
    obtain ⟨h1,h2⟩:=lo y x h
    obtain ⟨h3,h4⟩:=List.mem_filter.mp (X'.g y x h2)
    have hx:=w'.look h2
    have hyr:=((hs y).mp h1)
    have hlt:av ls x<av ls y:=by
      have h5:=h4
      unfold cf at h5
      simp only[Bool.and_eq_true,decide_eq_true_eq] at h5
      have:=(H x hx).2.2.2
      have h6:=h5.2
      unfold e6 oG at h6
      omega
    have hxl:x.1≤last:=by
      have o1:=(H x hx).2
      have o2:=(H y hyr.1).2
      unfold av at hlt
      omega
    exact ⟨(hs x).mpr ⟨hx,hxl⟩,List.mem_filter.mpr ⟨h1,h4⟩⟩
  have wo:Wf rides bo:=by
    refine ⟨?_,fun p hp=>?_,fun p hp=>?_⟩
    · rw[hbo]
      exact w'.nd.sublist (List.filter_sublist.map _)
    · rw[hbo] at hp
      simpa using (List.mem_filter.mp hp).2
    · have hl:aM bo p.1=some p.2:=by
        have hnd:(bo.map (·.1)).Nodup:=by rw[hbo]; exact w'.nd.sublist (List.filter_sublist.map _)
        have:=mq (l:=bo) hnd hp
        unfold aM
        rw[this]
        rfl
      exact (edge _ _ hl).1
  have h1:=uL X w nd (fun x _ y hy=>(List.mem_filter.mp hy).1) (b:=bo) (fun y z x e1 e2=>X'.m.inj y z x (lo y x e1).2 (lo z x e2).2) (fun y x h=>(edge y x h).2) wo
  have h2:=gc (fun p:aH × aH=>decide (p.1∈rides)) b'
  rw[←hbo] at h2
  have h3:(b'.filter fun p=>!decide (p.1∈rides)).length≤(rides'.filter fun r=>!decide (r∈rides)).length:=by
    have:=cX (l:=(b'.filter fun p=>!decide (p.1∈rides)).map (·.1)) (m:=rides'.filter fun r=>!decide (r∈rides)) (w'.nd.sublist (List.filter_sublist.map _)) fun y hy=>by
      obtain ⟨p,hp,rfl⟩:=List.mem_map.mp hy
      obtain ⟨p1,p2⟩:=List.mem_filter.mp hp
      exact List.mem_filter.mpr ⟨w'.ks p p1,p2⟩
    simpa using this
  have h4:=gc (fun r=>decide (r∈rides)) rides'
  have h5:rides.length≤(rides'.filter fun r=>decide (r∈rides)).length:=cX nd fun r hr=>List.mem_filter.mpr ⟨((hs r).mp hr).1,by simpa using hr⟩
  have h6:(rides'.filter fun r=>decide (r∈rides)).length≤rides.length:=cX (nd'.filter _) fun r hr=>by simpa using (List.mem_filter.mp hr).2
  omega
end
end DL
namespace DL
open PySem PySem.Spec PyProof.Rows L2 LamX
theorem sr {l:List aH} {k:Nat} {x:aH} (h:l[k]?=some x):atI (l.map aE) (k:Int)=some (aE x):=by
  rw[xw (by rw[List.length_map]; exact (List.getElem?_eq_some_iff.mp h).1)]
  simp[h]
theorem uN {a:RR} {n:Nat}:∀L:List aH,(L.flatMap (chF a n)).length≤L.length*(n+1)
  | []=>by simp
  | r::L=>by
    have h1:=lV a n r
    have h2:=uN (a:=a) (n:=n) L
    rw[List.flatMap_cons,List.length_append,List.length_cons,Nat.add_mul]
    omega
theorem xA {S:Sto} {ps:List (Str × Int)} {ls:List Leg} (H:NetOk ps ls) {first last:Int} (h0:0≤first) (h1:first≤last) (h2:last≤60) :
    jo [dH ps ls,.int first,.int last] S=.ok (.loc (S++jr S.length ps ls).length) (S++jr S.length ps ls++[.lst ((aw ls first (last+1 - first).toNat).map aE)]):=by
  have hg:(S++jr S.length ps ls)[S.length]?=some (.ins "Net" [("changes",.loc (S.length+1)),("legs",.loc (S.length+2))]):=by simp[jr]
  have e:=gZ (S:=S++jr S.length ps ls) kL H.nd H.len (fun l hl=>by have ok:=H.legs l hl; have:=iE ok.dlt ok.dbd; omega) h0 h1 h2
  apply aT
  unfold jo
  apply aW
  unfold uE
  simp -dsimp [pJ H,gb h0 h1 h2]
  simp -dsimp [hg,e]
theorem len13 {α:Type} {l:List α} (h:l.length=13):∃a b c d e f g i j k m n o,l=[a,b,c,d,e,f,g,i,j,k,m,n,o]:=by
  match l,h with
  | [a,b,c,d,e,f,g,i,j,k,m,n,o],_=>exact ⟨a,b,c,d,e,f,g,i,j,k,m,n,o,rfl⟩
structure OutI (sc:List Int) (env:En) (S:Sto):Prop where
  ex:∃o T tail,Dr sc o∧tail.length=13∧env=[some (.ro (sc.map .int)),some (.loc 0)]++tail∧S=o::T
structure EvI (front back:En) (S0:Sto) (a:RR) (n:Nat) (pre:List aH) (env:En) (S:Sto):Prop where
  ex:∃x12 x13 x14,env=front++[some (.lst ((pre.flatMap (chF a n)).map aE)),x12,x13,x14]++back∧S=S0
structure KpI (e0:En) (o:O) (env:En) (S:Sto):Prop where
  ex:env=e0∧∃T,S=o::T
theorem uz (x:D) (xs:List D):mr (.tpn (x::xs)) (some 1) none=some (.tup xs):=by
  have e:eF (x::xs) (some 1) none=xs:=by simp[eF,HT.sIx]
  show some (if HT.sIx (x::xs).length 0 (some 1)=0∧HT.sIx (x::xs).length (x::xs).length none=(x::xs).length then D.tpn (x::xs) else D.tup (eF (x::xs) (some 1) none))=some (.tup xs)
  rw[e,if_neg]
  simp[HT.sIx]
/-- a cover of which one end is left out is none -/
theorem xB {ls:List Leg} {turn:Int} {rides:List aH} {b a:RR} {t:T3} {ts:List T3} (M:Mxm (nxf ls turn rides) rides b a) (wb:Wf rides b) (h:(t::ts).length=b.length):shD ls turn rides (ts.map (tD true))=.none:=by
  unfold shD
  rw[if_neg]
  rintro ⟨_,_,hc⟩
  rw[pP] at hc
  have:=dual (ts:=ts) M.m.inj M.g wb fun x hx y hy=>by
    obtain ⟨h1,h2⟩:=List.mem_filter.mp hy
    exact covB_iff.mp hc x hx y h1 h2
  rw[List.length_cons] at h
  omega
theorem u4 (sc:List Int):Res.wp (qv [.ro (sc.map .int)] []) (fun v _=>v=.bool true) NoE:=by
  unfold qv
  apply aW
  unfold b_law
  simp -dsimp
  refine wV fun o1 d1=>?_
  simp -dsimp [fR]
  refine eU (f:=fun i:Nat=>D.int i) (List.range 2) (fun _ _=>OutI sc) (by rfl) ⟨o1,[],_,d1,rfl,rfl,rfl⟩ ?_ ?_
  · rintro pre i rest env S hp ⟨o2,T,tail,d2,ht,rfl,rfl⟩
    obtain ⟨x2,x3,x4,x5,x6,x7,x8,x9,x10,x11,x12,x13,x14,rfl⟩:=len13 ht
    refine ⟨([some (.ro (sc.map .int)),some (.loc 0),some (.int i),x3,x4,x5,x6,x7,x8,x9,x10,x11,x12,x13,x14],o2::T),rfl,?_⟩
    simp -dsimp
    refine wp_net d2 fun ps ls o3 j H d3=>?_
    generalize T++[j]=T1
    have hll:=H.len
    have nd:=H.nd
    have hdl:∀l∈ls,l.days.length≤1000:=fun l hl=>by have ok:=H.legs l hl; have:=iE ok.dlt ok.dbd; omega
    simp -dsimp
    refine aX d3 (by omega) (by omega) fun v1 o4 d4 a1 a2=>?_
    simp -dsimp
    refine aX d4 (by omega) (by omega) fun first o5 d5 b1 b2=>?_
    obtain ⟨turn,htn⟩:∃turn:Int,turn=10+v1:=⟨_,rfl⟩
    simp -dsimp [←htn]
    refine aX d5 (by omega) (by omega) fun more o7 d7 m1 m2=>?_
    obtain ⟨last,hlast⟩:∃last,last=first+more:=⟨_,rfl⟩
    have hl1:first≤last:=by omega
    have hl2:last≤60:=by omega
    simp -dsimp [←hlast]
    refine wd hll hdl (by omega) (by omega) (by omega) fun j1=>?_
    have hmin:min 60 last=last:=by omega
    rw[hmin]
    have h5:=H.few
    have hm1:10≤turn∧turn≤300:=by omega
    have hlen:(aw ls first (last+1 - first).toNat).length≤119:=by
      have h4:=lE ls first (last+1 - first).toNat
      have:(last+1 - first).toNat*ls.length≤3*28:=Nat.mul_le_mul (by omega) h5
      omega
    have hlen':(aw ls first (last+1+1 - first).toNat).length≤119:=by
      have h4:=lE ls first (last+1+1 - first).toNat
      have:(last+1+1 - first).toNat*ls.length≤4*28:=Nat.mul_le_mul (by omega) h5
      omega
    have hleg:∀r∈aw ls first (last+1 - first).toNat,HasLeg ls r.2:=fun r hr=>((dG nd).mp hr).2.2.1
    have rnd:=jB nd first (last+1 - first).toNat
    have rnd':=jB nd first (last+1+1 - first).toNat
    have rso:=pQ nd first (last+1 - first).toNat
    have dte:=fun S=>xA (S:=S) H (by omega:0≤first) hl1 hl2
    have fw:=fun S=>kM (S:=S) H hm1 (by omega:0≤first) hl1 hl2 hlen
    obtain ⟨f7,ht2⟩:∃f7:Int,f7=min 300 (turn+60):=⟨_,rfl⟩
    have fw2:=fun S=>kM (S:=S) (turn:=f7) H (by omega) (by omega:0≤first) hl1 hl2 hlen
    have fw3:=fun S=>kM (S:=S) (last:=last+1) H hm1 (by omega:0≤first) (by omega) (by omega) hlen'
    have sw:=fun (S:Sto) (v:D) (cs:List D) (hv:TV v cs) (hcs:∀d∈cs,CovE d) (hcl:cs.length≤1000)=>wu (S:=S) H hm1 (by omega:0≤first) hl1 hl2 hlen hv hcs hcl
    have hsub:∀r,r∈aw ls first (last+1 - first).toNat↔r∈aw ls first (last+1+1 - first).toNat∧r.1≤last:=fun r=>by
      rw[dG nd,dG nd]
      constructor
      · rintro ⟨q1,q2,q3,q4⟩
        exact ⟨⟨q1,by omega,q3,q4⟩,by omega⟩
      · rintro ⟨⟨q1,q2,q3,q4⟩,q5⟩
        exact ⟨q1,by omega,q3,q4⟩
    have hlg':∀r∈aw ls first (last+1+1 - first).toNat,HasLeg ls r.2∧0≤(bR ls r.2).out∧(bR ls r.2).out<1440∧20≤(bR ls r.2).long:=fun r hr=>by
      have h:=((dG nd).mp hr).2.2.1
      have ok:=H.legs _ (gK h)
      exact ⟨h,ok.out.1,ok.out.2,ok.long.1⟩
    generalize aw ls first (last+1 - first).toNat=rides at hleg hlen fw fw2 sw rnd rso dte hsub
    generalize aw ls first (last+1+1 - first).toNat=rides' at hlen' fw3 rnd' hsub hlg'
    rw[List.cons_append]
    generalize T1++[j1]=T2
    have e1:=dte (o7::T2)
    rw[List.cons_append] at e1
    generalize T2++jr (o7::T2).length ps ls=TY at e1
    have e2:(o7::TY++[O.lst (rides.map aE)])[(o7::TY).length]?=some (.lst (rides.map aE)):=List.getElem?_concat_length
    generalize (o7::TY).length=c1 at e1 e2
    rw[List.cons_append] at e1 e2
    have vw1:view (o7::(TY++[O.lst (rides.map aE)])) (.loc c1)=.lst (rides.map aE):=by simp[view,view0,e2]
    have w1:dok 60 (.lst (rides.map aE))=true:=rideEnc.lst.dok 60 _ (by omega)
    have w2:peq (.lst (rides.map aE)) (.lst (rides.map aE))=true:=(rideEnc.lst.peq _ _).mpr rfl
    simp -dsimp [e1,vw1,w1,w2]
    generalize TY++[O.lst (rides.map aE)]=T2
    refine cV (fw (o7::T2)) ?_
    rintro v S ⟨U,c,b,a,E,G,L,rfl,rfl,hcS,hcL,hL,M,wb,wa,P⟩
    obtain ⟨gd,hgd⟩:∃gd,gd=(cvT rides E G).mergeSort le3:=⟨_,rfl⟩
    have hN:∀x∈rides,∀y∈nxf ls turn rides x,y∈rides:=fun x _ y hy=>(List.mem_filter.mp hy).1
    have clen:=cv_len P M.m M.g wb rnd hN
    have slen:=jC wb rnd
    rw[←hL] at slen
    have gl:gd.length=b.length:=by rw[hgd,List.length_mergeSort,clen]
    have bl:=wb.len
    have sd:shD ls turn rides (gd.map (tD true))=.int (L.length:Nat):=by
      rw[hgd,uy P rnd,clen]
      congr 1
      omega
    have gso:bJ gd=gd:=by rw[hgd]; exact uM (si rnd)
    have hf:∀x y,aM a x=some y→av ls x<av ls y∧y∈rides:=fun x y e=>by
      have hx:x∈rides:=M.k x (by rw[e]; rfl)
      obtain ⟨h4,h5⟩:=List.mem_filter.mp (M.g y x ((M.m y x).mpr e))
      exact ⟨cf_lt H hm1.1 (hleg x hx) h5,h4⟩
    have Lsub:∀r∈L,r∈rides:=fun r hr=>by rw[hL] at hr; exact (List.mem_filter.mp hr).1
    have chl:∀r∈L,∀q∈chF a rides.length r,HasLeg ls q.2:=fun r hr q hq=>hleg q ((kP hf (Lsub r hr)).sub q hq)
    have chc:∀r∈L,∀x y,aM a x=some y→x∈chF a rides.length r→cf ls turn x y=true:=fun r hr x y e _=>(List.mem_filter.mp (M.g y x ((M.m y x).mpr e))).2
    have chp:(L.flatMap (chF a rides.length)).Perm rides:=by rw[hL]; exact rJ M.m rnd wb hf
    have chs:((L.map fun r=>(av ls r,r.2)).mergeSort leR)=L.map fun r=>(av ls r,r.2):=by rw[hL]; exact m9 _ rso
    have hLl:L.length≤119:=by omega
    rw[←hgd]
    rw[List.cons_append] at hcL ⊢
    generalize T2++U=T3 at hcL ⊢
    simp -dsimp
    refine cV (wx H hleg rnd hlen) ?_
    rintro v S ⟨b2,a2,U2,rfl,rfl,wb2,M2⟩
    have q1:=uL M wb rnd hN M2.m.inj M2.g wb2
    have q2:=uL M2 wb2 rnd hN M.m.inj M.g wb
    have q3:(rides.length:Int) - (b2.length:Int)=(L.length:Nat):=by omega
    rw[q3]
    have c2:(o7::T3++U2)[c]?=some (.lst (L.map (chD a rides.length))):=ae hcL _
    rw[List.cons_append] at c2 ⊢
    generalize T3++U2=T4 at c2 ⊢
    have fl2:=jY c2
    rw[List.length_map] at fl2
    have it2:bI (o7::T4) (.loc c)=some (.live c):=by simp[bI,c2]
    simp -dsimp [fl2,it2]
    obtain ⟨fr,hfr⟩:∃fr:En,fr=[some (.ro (sc.map .int)),some (.loc 0),some (.int i),some (dH ps ls),some (.int turn),some (.int first),some (.int last),some (.lst (rides.map aE)),some (.int (L.length:Nat)),some (.loc c),some (.tpn (gd.map (tD true)))]:=⟨_,rfl⟩
    refine ja (f:=chD a rides.length) L (fun pre _=>EvI [some (.ro (sc.map .int)),some (.loc 0),some (.int i),some (dH ps ls),some (.int turn),some (.int first),some (.int last),some (.lst (rides.map aE)),some (.int (L.length:Nat)),some (.loc c),some (.tpn (gd.map (tD true)))] [] (o7::T4) a rides.length pre) ?_ ⟨_,_,_,rfl,rfl⟩ ?_ ?_
    · rintro pre1 rest1 env S e3 ⟨y12,y13,y14,rfl,rfl⟩
      exact c2
    · rintro pre1 r rest1 env S e3 ⟨y12,y13,y14,rfl,rfl⟩
      have hr:r∈L:=by rw[←e3]; simp
      have hpl:pre1.length<L.length:=by rw[←e3]; simp
      obtain ⟨l,hl⟩:∃l,l=chF a rides.length r:=⟨_,rfl⟩
      have hh:l[0]?=some r:=by rw[hl]; exact iH a _ r
      have hl0:0<l.length:=(List.getElem?_eq_some_iff.mp hh).1
      have hll2:l.length≤120:=by rw[hl]; have:=lV a rides.length r; omega
      have ed:chD a rides.length r=.tpn (l.map aE):=by rw[hl]; rfl
      have sm:bK ((l.length:Int) - 1)=true:=dk (by omega)
      have h1:=uN (a:=a) (n:=rides.length) pre1
      have h4:pre1.length*(rides.length+1)≤119*120:=Nat.mul_le_mul (by omega) (by omega)
      have hle:(pre1.flatMap (chF a rides.length)).length+l.length≤1000000:=by omega
      have hfL:tW (o7::T4) [.tpn (l.map aE)]=some (.lst (l.map aE)):=rfl
      refine ⟨([some (.ro (sc.map .int)),some (.loc 0),some (.int i),some (dH ps ls),some (.int turn),some (.int first),some (.int last),some (.lst (rides.map aE)),some (.int (L.length:Nat)),some (.loc c),some (.tpn (gd.map (tD true))),some (.lst ((pre1.flatMap (chF a rides.length)).map aE)),some (chD a rides.length r),y13,y14],o7::T4),rfl,?_⟩
      rw[ed]
      simp -dsimp [hfL,hle,sm,fR,-List.length_flatMap]
      refine ar (f:=fun i:Nat=>D.int i) (List.range (l.length - 1)) (fun _=>false) (fun i=>D.int i) rfl (by simp; omega) (fun i hi=>⟨_,rfl,?_,nofun⟩) ?_
      · have hi:=List.mem_range.mp hi
        obtain ⟨x,g1⟩:∃x,l[i]?=some x:=⟨_,List.getElem?_eq_getElem (show i<l.length by omega)⟩
        obtain ⟨y,g2⟩:∃y,l[i+1]?=some y:=⟨_,List.getElem?_eq_getElem (show i+1<l.length by omega)⟩
        have a1:=sr g1
        have a2:=sr g2
        have m1:x∈chF a rides.length r:=by rw[←hl]; exact List.mem_of_getElem? g1
        have m2:y∈chF a rides.length r:=by rw[←hl]; exact List.mem_of_getElem? g2
        have ea:aM a x=some y:=mm a rides.length r i x y (by rw[←hl]; exact g1) (by rw[←hl]; exact g2)
        have hcf:=chc r hr _ _ ea m1
        have q:=mn (ps:=ps) (turn:=turn) (S:=o7::T4) H (chl r hr _ m1) (chl r hr _ m2)
        rw[hcf] at q
        have e2:((i:Int)+1)=((i+1:Nat):Int):=by omega
        apply aT
        simp -dsimp [a1]
        rw[e2,a2]
        simp -dsimp [q]
      · have hf0:((List.range (l.length - 1)).filter fun _=>false)=[]:=by simp
        rw[hf0]
        simp -dsimp
        refine ⟨some (.tpn (l.map aE)),y13,y14,?_,rfl⟩
        rw[List.flatMap_append,List.map_append,hl]
        simp
    · rintro env S ⟨y12,y13,y14,rfl,rfl⟩
      simp -dsimp [it2]
      refine c7 (f:=chD a rides.length) L (fun _=>true) (fun r=>aE (av ls r,r.2)) (by omega) c2 (fun r hr=>⟨_,rfl,rfl,fun _=>?_⟩) ?_
      · have hh:=iH a rides.length r
        have at00:atI ((chF a rides.length r).map aE) 0=some (aE r):=sr hh
        have hlv:=gY (S:=o7::T4) (ps:=ps) nd (by omega) (chl r hr r (List.mem_of_getElem? hh))
        have rx:∀S,fIx S (aE r) (.int 1)=some (.int r.2):=fun _=>rfl
        apply aT
        simp -dsimp [chD,at00,hlv,rx]
        rfl
      rw[cH]
      have eb:(L.map fun r=>aE (av ls r,r.2))=(L.map fun r=>(av ls r,r.2)).map aE:=by rw[List.map_map]; rfl
      rw[eb]
      have h1:=chp.length_eq
      have s1:=ge (S:=o7::T4) (d:=.lst ((L.flatMap (chF a rides.length)).map aE)) (L.flatMap (chF a rides.length)) rfl (by omega)
      have s2:=ge (S:=o7::T4) (d:=.lst (rides.map aE)) rides rfl (by omega)
      rw[sk chp rnd] at s1
      have s3:=ge (S:=o7::T4) (d:=.lst ((L.map fun r=>(av ls r,r.2)).map aE)) (L.map fun r=>(av ls r,r.2)) rfl (by simp; omega)
      rw[chs] at s3
      have w3:dok 60 (.lst ((rides.mergeSort leR).map aE))=true:=rideEnc.lst.dok 60 _ (by omega)
      have w4:peq (.lst ((rides.mergeSort leR).map aE)) (.lst ((rides.mergeSort leR).map aE))=true:=(rideEnc.lst.peq _ _).mpr rfl
      obtain ⟨bg,hbg⟩:∃bg,bg=(L.map fun r=>(av ls r,r.2)).map aE:=⟨_,rfl⟩
      have w5:dok 60 (.lst bg)=true:=by rw[hbg]; exact rideEnc.lst.dok 60 _ (by omega)
      have w6:peq (.lst bg) (.lst bg)=true:=by rw[hbg]; exact (rideEnc.lst.peq _ _).mpr rfl
      rw[←hbg] at s3 ⊢
      have tv:TV (.tpn (gd.map (tD true))) (gd.map (tD true)):=.inr rfl
      have sq:=tv.seq (S:=o7::T4)
      have t3:=kN gd
      have s305:gd.length≤305:=by omega
      have w7:dok 60 (.tup (gd.map (tD true)))=true:=tEnc.tup.dok 60 gd (by omega)
      have w8:peq (.tup (gd.map (tD true))) (.tup (gd.map (tD true)))=true:=(tEnc.tup.peq gd gd).mpr rfl
      simp -dsimp [s1,s2,w3,w4,s3,w5,w6,sq,t3,s305,gso,w7,w8]
      refine cV (sw (o7::T4) _ _ tv (fun d hd=>by
        obtain ⟨t,_,rfl⟩:=List.mem_map.mp hd
        exact .inl ⟨t,rfl⟩) (by simp; omega)) ?_
      rintro v S ⟨rfl,U4,rfl⟩
      rw[sd,List.cons_append]
      generalize T4++U4=T6
      simp -dsimp [-wq_sIf,-sIf_at]
      refine mF (N:=KpI [some (.ro (sc.map .int)),some (.loc 0),some (.int i),some (dH ps ls),some (.int turn),some (.int first),some (.int last),some (.lst (rides.map aE)),some (.int (L.length:Nat)),some (.loc c),some (.tpn (gd.map (tD true))),some (.lst ((L.flatMap (chF a rides.length)).map aE)),y12,some (.lst bg),y14] o7) ?_ (fun e S1 hs=>?_) (fun _ _ z=>z)
      · have w9:peq (.tup (gd.map (tD true))) (.tup [])=decide (gd=[]):=by
          rw[Bool.eq_iff_iff,decide_eq_true_eq]
          exact tEnc.tup.peq gd []
        cases hgdc:gd with
        | nil=>
          rw[hgdc] at w7 w9
          simp -dsimp [w7,w9]
          exact ⟨rfl,_,rfl⟩
        | cons t ts=>
          have cf1:=uz (tD true t) (ts.map (tD true))
          have sl:=xB M wb (t:=t) (ts:=ts) (by rw[←hgdc]; exact gl)
          have tsl:(ts.map (tD true)).length≤1000:=by
            have:gd.length=ts.length+1:=by rw[hgdc]; rfl
            simp
            omega
          rw[hgdc] at w7 w9
          rw[List.map_cons] at w7 w9
          simp -dsimp [w7,w9,cf1]
          refine cV (sw (o7::T6) (.tup (ts.map (tD true))) _ (.inl rfl) (fun d hd=>by
            obtain ⟨t,_,rfl⟩:=List.mem_map.mp hd
            exact .inl ⟨t,rfl⟩) tsl) ?_
          rintro v S ⟨rfl,U5,rfl⟩
          rw[sl,List.cons_append]
          simp -dsimp [isN]
          exact ⟨rfl,_,rfl⟩
      · obtain ⟨rfl,T7,rfl⟩:=hs
        simp -dsimp [←ht2]
        refine cV (fw2 (o7::T7)) ?_
        rintro v S ⟨U6,c6,b6,a6,E6,G6,L6,rfl,rfl,_,_,hL6,M6,wb6,wa6,P6⟩
        have t6:=yV (turn:=turn) (turn':=f7) (by omega) rnd M wb M6 wb6
        have sl6:=jC wb6 rnd
        rw[←hL6] at sl6
        have n6:¬((L6.length:Int)<(L.length:Int)):=by omega
        have n6':¬(L6.length<L.length):=by omega
        rw[List.cons_append]
        generalize T7++U6=T8
        simp -dsimp [n6,n6']
        refine cV (fw3 (o7::T8)) ?_
        rintro v S ⟨U8,c8,b8,a8,E8,G8,L8,rfl,rfl,_,_,hL8,M8,wb8,wa8,P8⟩
        have t8:=yW hlg' hm1.1 rnd rnd' hsub M wb M8 wb8
        have sl8:=jC wb8 rnd'
        rw[←hL8] at sl8
        have n8:¬((L8.length:Int)<(L.length:Int)):=by omega
        have n8':¬(L8.length<L.length):=by omega
        rw[List.cons_append]
        simp -dsimp [n8,n8']
        exact ⟨o7,_,[_,_,_,_,_,_,_,_,_,_,_,_,_],d7,rfl,rfl,rfl⟩
  · rintro env S ⟨o2,T,tail,d2,ht,rfl,rfl⟩
    simp -dsimp
end DL
namespace DL
open PySem PySem.Spec PyProof.Rows L2 LamX
theorem hFx {K:PySem.W.Frag} {w:World} {h:Heap} {mg:Str→Option Value} (X:K.In h) (G:h.Ns mainGlobals mg) (c:He.SaysX hAll hFn sv hTf hEx w h K):Fx K mg where
  a_Matcher_ahead:=He.noat_ok (c.t.d.fact 0 (f:=.noat "Matcher" "ahead") rfl)
  a_Matcher_behind:=He.noat_ok (c.t.d.fact 1 (f:=.noat "Matcher" "behind") rfl)
  a_Matcher_every:=He.noat_ok (c.t.d.fact 2 (f:=.noat "Matcher" "every") rfl)
  a_Matcher_nexts:=He.noat_ok (c.t.d.fact 3 (f:=.noat "Matcher" "nexts") rfl)
  a_Net_changes:=He.noat_ok (c.t.d.fact 4 (f:=.noat "Net" "changes") rfl)
  a_Net_legs:=He.noat_ok (c.t.d.fact 5 (f:=.noat "Net" "legs") rfl)
  c_Matcher:=He.cls_ok (c.t.d.fact 6 (f:=.cls "Matcher") rfl)
  c_Net:=He.cls_ok (c.t.d.fact 7 (f:=.cls "Net") rfl)
  d_AirError:=He.glo_ok X G (c.t.d.fact 8 (f:=.glo "AirError") rfl)
  d_BadCount:=He.glo_ok X G (c.t.d.fact 9 (f:=.glo "BadCount") rfl)
  d_BadDay:=He.glo_ok X G (c.t.d.fact 10 (f:=.glo "BadDay") rfl)
  d_BadNet:=He.glo_ok X G (c.t.d.fact 11 (f:=.glo "BadNet") rfl)
  d_Matcher:=He.glo_ok X G (c.t.d.fact 12 (f:=.glo "Matcher") rfl)
  d_Net:=He.glo_ok X G (c.t.d.fact 13 (f:=.glo "Net") rfl)
  d__law_arrive:=He.glo_ok X G (c.t.d.fact 14 (f:=.glo "_law_arrive") rfl)
  d__law_drawn:=He.glo_ok X G (c.t.d.fact 15 (f:=.glo "_law_drawn") rfl)
  d__law_least:=He.glo_ok X G (c.t.d.fact 16 (f:=.glo "_law_least") rfl)
  d__law_leave:=He.glo_ok X G (c.t.d.fact 17 (f:=.glo "_law_leave") rfl)
  d__law_leg:=He.glo_ok X G (c.t.d.fact 18 (f:=.glo "_law_leg") rfl)
  d__law_matched:=He.glo_ok X G (c.t.d.fact 19 (f:=.glo "_law_matched") rfl)
  d__law_may:=He.glo_ok X G (c.t.d.fact 20 (f:=.glo "_law_may") rfl)
  d__law_net:=He.glo_ok X G (c.t.d.fact 21 (f:=.glo "_law_net") rfl)
  d__law_rides:=He.glo_ok X G (c.t.d.fact 22 (f:=.glo "_law_rides") rfl)
  d__law_shuttle:=He.glo_ok X G (c.t.d.fact 23 (f:=.glo "_law_shuttle") rfl)
  d__law_start:=He.glo_ok X G (c.t.d.fact 24 (f:=.glo "_law_start") rfl)
  d_are_days:=He.glo_ok X G (c.t.d.fact 25 (f:=.glo "are_days") rfl)
  d_can_follow:=He.glo_ok X G (c.t.d.fact 26 (f:=.glo "can_follow") rfl)
  d_dated:=He.glo_ok X G (c.t.d.fact 27 (f:=.glo "dated") rfl)
  d_fewest:=He.glo_ok X G (c.t.d.fact 28 (f:=.glo "fewest") rfl)
  d_is_end:=He.glo_ok X G (c.t.d.fact 29 (f:=.glo "is_end") rfl)
  d_is_leg:=He.glo_ok X G (c.t.d.fact 30 (f:=.glo "is_leg") rfl)
  d_is_number:=He.glo_ok X G (c.t.d.fact 31 (f:=.glo "is_number") rfl)
  d_is_place:=He.glo_ok X G (c.t.d.fact 32 (f:=.glo "is_place") rfl)
  d_is_word:=He.glo_ok X G (c.t.d.fact 33 (f:=.glo "is_word") rfl)
  d_need_days:=He.glo_ok X G (c.t.d.fact 34 (f:=.glo "need_days") rfl)
  d_need_net:=He.glo_ok X G (c.t.d.fact 35 (f:=.glo "need_net") rfl)
  d_need_turn:=He.glo_ok X G (c.t.d.fact 36 (f:=.glo "need_turn") rfl)
  d_shown_planes:=He.glo_ok X G (c.t.d.fact 37 (f:=.glo "shown_planes") rfl)
  i_DAY:=He.int_ok X G (c.t.d.fact 38 (f:=.int "DAY" 1440) rfl)
  i_LEAST_CHANGE:=He.int_ok X G (c.t.d.fact 39 (f:=.int "LEAST_CHANGE" 10) rfl)
  i_LEAST_LONG:=He.int_ok X G (c.t.d.fact 40 (f:=.int "LEAST_LONG" 20) rfl)
  i_LEAST_TURN:=He.int_ok X G (c.t.d.fact 41 (f:=.int "LEAST_TURN" 10) rfl)
  i_MOST_CHANGE:=He.int_ok X G (c.t.d.fact 42 (f:=.int "MOST_CHANGE" 300) rfl)
  i_MOST_DAY:=He.int_ok X G (c.t.d.fact 43 (f:=.int "MOST_DAY" 60) rfl)
  i_MOST_FARE:=He.int_ok X G (c.t.d.fact 44 (f:=.int "MOST_FARE" 100000) rfl)
  i_MOST_LEGS:=He.int_ok X G (c.t.d.fact 45 (f:=.int "MOST_LEGS" 60) rfl)
  i_MOST_LONG:=He.int_ok X G (c.t.d.fact 46 (f:=.int "MOST_LONG" 900) rfl)
  i_MOST_NUMBER:=He.int_ok X G (c.t.d.fact 47 (f:=.int "MOST_NUMBER" 9999) rfl)
  i_MOST_PLACES:=He.int_ok X G (c.t.d.fact 48 (f:=.int "MOST_PLACES" 12) rfl)
  i_MOST_TURN:=He.int_ok X G (c.t.d.fact 49 (f:=.int "MOST_TURN" 300) rfl)
  i_PLACE_SIZE:=He.int_ok X G (c.t.d.fact 50 (f:=.int "PLACE_SIZE" 3) rfl)
  i_WEEK:=He.int_ok X G (c.t.d.fact 51 (f:=.int "WEEK" 7) rfl)
  k_Matcher:=He.mkr_ok (c.t.d.fact 52 (f:=.mkr "Matcher") rfl)
  k_Net:=He.mkr_ok (c.t.d.fact 53 (f:=.mkr "Net") rfl)
  m_Matcher_chains:=He.meth_ok (c.t.d.fact 54 (f:=.meth "Matcher" "chains") rfl)
  m_Matcher_cover:=He.meth_ok (c.t.d.fact 55 (f:=.meth "Matcher" "cover") rfl)
  m_Matcher_grow:=He.meth_ok (c.t.d.fact 56 (f:=.meth "Matcher" "grow") rfl)
  m_Net_all_rides:=He.meth_ok (c.t.d.fact 57 (f:=.meth "Net" "all_rides") rfl)
  m_Net_arrive:=He.meth_ok (c.t.d.fact 58 (f:=.meth "Net" "arrive") rfl)
  m_Net_goal:=He.meth_ok (c.t.d.fact 59 (f:=.meth "Net" "goal") rfl)
  m_Net_goes:=He.meth_ok (c.t.d.fact 60 (f:=.meth "Net" "goes") rfl)
  m_Net_leave:=He.meth_ok (c.t.d.fact 61 (f:=.meth "Net" "leave") rfl)
  m_Net_long:=He.meth_ok (c.t.d.fact 62 (f:=.meth "Net" "long") rfl)
  m_Net_start:=He.meth_ok (c.t.d.fact 63 (f:=.meth "Net" "start") rfl)
  n_all:=He.free_ok X G (c.t.d.fact 64 (f:=.free "all") rfl)
  n_bool:=He.free_ok X G (c.t.d.fact 65 (f:=.free "bool") rfl)
  n_dict:=He.free_ok X G (c.t.d.fact 66 (f:=.free "dict") rfl)
  n_enumerate:=He.free_ok X G (c.t.d.fact 67 (f:=.free "enumerate") rfl)
  n_int:=He.free_ok X G (c.t.d.fact 68 (f:=.free "int") rfl)
  n_isinstance:=He.free_ok X G (c.t.d.fact 69 (f:=.free "isinstance") rfl)
  n_len:=He.free_ok X G (c.t.d.fact 70 (f:=.free "len") rfl)
  n_list:=He.free_ok X G (c.t.d.fact 71 (f:=.free "list") rfl)
  n_min:=He.free_ok X G (c.t.d.fact 72 (f:=.free "min") rfl)
  n_range:=He.free_ok X G (c.t.d.fact 73 (f:=.free "range") rfl)
  n_set:=He.free_ok X G (c.t.d.fact 74 (f:=.free "set") rfl)
  n_sorted:=He.free_ok X G (c.t.d.fact 75 (f:=.free "sorted") rfl)
  n_str:=He.free_ok X G (c.t.d.fact 76 (f:=.free "str") rfl)
  n_tuple:=He.free_ok X G (c.t.d.fact 77 (f:=.free "tuple") rfl)
  n_zip:=He.free_ok X G (c.t.d.fact 78 (f:=.free "zip") rfl)
  s_LETTERS:=He.str_ok X G (c.t.d.fact 79 (f:=.str "LETTERS" "abcdefghijklmnopqrstuvwxyz") rfl)
  x_BadCount:=tY (c.t.d.fact 80 (f:=.exc "BadCount") rfl)
  x_BadDay:=tY (c.t.d.fact 81 (f:=.exc "BadDay") rfl)
  e_BadNet:=vo (He.ba (He.ba c.more).2).1
theorem hGx {P:Program} {K:PySem.W.Frag} {w:World} {h base:Heap} {mg:Str→Option Value} (X:K.In h) (G:h.Ns mainGlobals mg) (c:He.SaysX hAll hFn sv hTf hEx w h K) (tb:∀p∈hTf.map (He.cT K),TabB base mg p.1 p.2):Gx P w K mg base where
  fx:=hFx X G c
  tb:=fun p hp=>tb _ (List.mem_map.mpr ⟨p.1,List.mem_map.mpr ⟨p,hp,rfl⟩,rfl⟩)
  tm:=(nV (He.ba c.more).1).1
  tu:=(nV (He.ba c.more).1).2
  f_Matcher_cover:=c.t.d.def_ 0 (d:=gf) rfl
  f_Matcher_chains:=c.t.d.def_ 1 (d:=fq) rfl
  f_Net_leave:=c.t.d.def_ 2 (d:=kQ) rfl
  f_is_number:=c.t.d.def_ 3 (d:=d_is_number) rfl
  f_Net_goes:=c.t.d.def_ 4 (d:=lW) rfl
  f_Net_all_rides:=c.t.d.def_ 5 (d:=gg) rfl
  f_Matcher_grow:=c.t.d.def_ 6 (d:=gv) rfl
  f_Net_long:=c.t.d.def_ 7 (d:=lX) rfl
  f_Net_arrive:=c.t.d.def_ 8 (d:=jD) rfl
  f_Net_goal:=c.t.d.def_ 9 (d:=lY) rfl
  f_Net_start:=c.t.d.def_ 10 (d:=kR) rfl
  f_can_follow:=c.t.d.def_ 11 (d:=d_can_follow) rfl
  f_Matcher_init__:=c.t.d.def_ 12 (d:=fu) rfl
  f_need_days:=c.t.d.def_ 13 (d:=d_need_days) rfl
  f_need_turn:=c.t.d.def_ 14 (d:=d_need_turn) rfl
  f_are_days:=c.t.d.def_ 15 (d:=d_are_days) rfl
  f_is_leg:=c.t.d.def_ 16 (d:=d_is_leg) rfl
  f_BadNet_init__:=c.t.d.def_ 17 (d:=gh) rfl
  f_is_word:=c.t.d.def_ 18 (d:=d_is_word) rfl
  f_is_place:=c.t.d.def_ 19 (d:=d_is_place) rfl
  f_need_net:=c.t.d.def_ 20 (d:=d_need_net) rfl
  f_Net_init__:=c.t.d.def_ 21 (d:=jE) rfl
  f_fewest:=c.t.d.def_ 22 (d:=d_fewest) rfl
  f_is_end:=c.t.d.def_ 23 (d:=d_is_end) rfl
  f_shown_planes:=c.t.d.def_ 24 (d:=d_shown_planes) rfl
  f_law_leave:=c.t.d.def_ 25 (d:=kT) rfl
  f_law_leg:=c.t.d.def_ 26 (d:=nA) rfl
  f_law_arrive:=c.t.d.def_ 27 (d:=jF) rfl
  f_law_may:=c.t.d.def_ 28 (d:=nB) rfl
  f_law_matched:=c.t.d.def_ 29 (d:=iS) rfl
  f_law_least:=c.t.d.def_ 30 (d:=kU) rfl
  f_dated:=c.t.d.def_ 31 (d:=d_dated) rfl
  f_law_rides:=c.t.d.def_ 32 (d:=kW) rfl
  f_law_drawn:=c.t.d.def_ 33 (d:=kX) rfl
  f_law_shuttle:=c.t.d.def_ 34 (d:=iT) rfl
  f_law_net:=c.t.d.def_ 35 (d:=nD) rfl
  f_law_start:=c.t.d.def_ 36 (d:=kY) rfl
  f_law:=c.t.d.def_ 37 (d:=u8) rfl
/-- THE ROW,from what the law's mirror gives at each script -/
theorem row_of (hLaw:∀ns:List Int,ns.length≤63→(∀z∈ns,Builtin.Int.intBits z≤1048576)→∃S,qv [.ro (ns.map .int)] []=.ok (.bool true) S):PySem.Challenge.rw_airhouse_k36_whole_planes_matched.Holds:=by
  refine u9 ?_
  refine LamX.walk_ofTsE (l:=PySem.Challenge.rw_airhouse_k36_whole_planes_matched) (n:=63) (k:=125) (x:="_law_script") (CX:=fun w=>L2N.CX PySem.Challenge.rw_airhouse_k36_whole_planes_matched.prog w) hMost (by decide) hDf ⟨rfl,by decide,by decide⟩ ?F (fun _ _ _ _ _ z=>vY z)
  intro w mg fa h Y G hmg0
  obtain ⟨K,KX,c⟩:=Y
  have hmg:mg ("law":PySem.Str)=some (.ref fa):=by
    have e:=hNm
    rw[←e]
    exact hmg0
  obtain ⟨fd,F⟩:=c.t.d.def_ 37 (d:=u8) rfl
  have e:=hmg.symm.trans (He.glo_ok KX G (c.t.d.fact 82 (f:=.glo "law") rfl))
  cases e
  have b:=FunD.bindsA (ps:=["_law_script"]) F fun _ _ _ _ _ _ us hl=>match us,hl with|[_],_=>rfl
  refine ⟨K,KX,fd,hTf.map (He.cT K),spD K mg 1 qv,fun p hp=>?_,fun p hp=>?_,fun p hp=>?_,fun s v=>b s [v] rfl,fun H a ns hl hbits hH hS=>?_,fun base KB GB TB=>(ok_law (hGx KX G c TB) F).ok⟩
  · obtain ⟨q,hq,rfl⟩:=List.mem_map.mp hp
    exact c.empty q hq
  · obtain ⟨q,hq,rfl⟩:=List.mem_map.mp hp
    exact c.out q hq
  · obtain ⟨q,hq,rfl⟩:=List.mem_map.mp hp
    exact PySem.W.codeHd_of_K KX (c.hd q hq)
  · refine vZ hS (fun p hp=>?_) (hLaw ns hl hbits)
    obtain ⟨q,hq,rfl⟩:=List.mem_map.mp hp
    exact hH (He.cT K q.1) (List.mem_map.mpr ⟨q.1,List.mem_map.mpr ⟨q,hq,rfl⟩,rfl⟩)
end DL
namespace DL
open PySem PySem.Spec PyProof.Rows L2 LamX
theorem xC {α:Type} {r:Res α} {v:α} (h:Res.wp r (fun a _=>a=v) NoE):∃S,r=.ok v S:=by
  cases r with
  | ok a S=>rw[fJ] at h; exact ⟨S,by rw[h]⟩
  | exc e S=>simp at h
  | stuck=>simp at h
end DL
open DL in
theorem PySem.Challenge.cw_airhouse_k36_whole_planes_matched_holds : PySem.Challenge.rw_airhouse_k36_whole_planes_matched.Holds := by
  exact row_of fun ns _ _ => xC (u4 ns)
