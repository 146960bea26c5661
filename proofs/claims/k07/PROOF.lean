import PyProof.Rows.All
import Wide.All
import OpenK.AllK
import Wide.FinOn
import HandS.Lambda
import HandS.HeadHook4
import HandS.ForMost
import HandS.ForExc
import HandS.TupAny
import HandS.Flow
import HandS.Deep
import HandS.Zip
import KE.GoesEnum
import HandS.CallSlots
import HandS.IsInst
import KE.SortData
import HandS.Small
import HandS.Style
import HandS.DictComp
import KE.KDictPairs
import HandS.SortInts
import HandS.ExcOwn
import HandS.ExcIs
import HandS.Defaults
import HandS.HeadWalk
import KE.SortKeyHeap
import HandS.SortKw
import HandS.Iter
import HandS.Comp
import HandS.RaiseMore
import HandS.SetKeys
import HandS.MakeKwOnly
import KE.DataMinMax
import KE.KLam
import KE.KStateDown
import HandS.Head0
import HandS.Head1
import HandS.Head2
import HandS.HeadEnd
import PySem.Challenge.RW_airhouse_k07_duties
set_option Elab.async false
set_option linter.all false
/-! DL0: the defs in which lambdas are made, and the lambdas' qualified name (one list for each law). -/
namespace DL
open PySem PySem.Spec PyProof.Rows L2
def lamDefs : List ((Str × Option Str) × Str) := [(("law", none), "law.<locals>.<lambda>")]
/-- their tables of code objects -/
def tbs (K : PySem.W.Frag) : List (Addr × Str) := lamDefs.map fun p => (He.tabOf K (He.codeOf K p.1), p.2)
end DL

set_option Elab.async false
set_option linter.all false
set_option maxRecDepth 100000
/-! DL1: values as trees, a store of what changes, how they lie in the abstract heap. -/
namespace DL
open PySem PySem.Spec PyProof.Rows L2

inductive D where
  | none | bool (b : Bool) | int (i : Int) | str (x : Str) | ty (n : String)
  | tup (xs : List D) | lst (xs : List D) | ro (xs : List D) | loc (l : Nat) | glo (x : Str) | adr (a : Addr) | tpn (xs : List D)
  | clo (k : Nat) (b : Bool) (q : Str) (F : Value → Addr → Value → Value → Obj)
  deriving Inhabited
inductive O where
  | lst (xs : List D) | dct (t : Bool) (kvs : List (D × D)) | ins (C : Str) (fs : List (Str × D)) | fdc (t : Bool) (kvs : List (D × D))
  deriving Inhabited
abbrev Sto := List O
abbrev En := List (Option D)
structure XV where
  cls : Str
  fs : List (Str × D)

def keyD : Key → D
  | .inl i => .int i
  | .inr x => .str x
def keyTD (ks : List Key) : D := .tup (ks.map keyD)

/-- where what changes stands: what is named by its place, and what is being made -/
structure Mu where
  l : List Addr
  h : List Addr
instance : Membership Addr Mu := ⟨fun μ a => a ∈ μ.l ∨ a ∈ μ.h⟩
def Mu.push (μ : Mu) (p : Addr) : Mu := ⟨μ.l ++ [p], μ.h⟩
def Mu.hide (μ : Mu) (p : Addr) : Mu := ⟨μ.l, p :: μ.h⟩
theorem Mu.mem {μ : Mu} {a : Addr} : a ∈ μ ↔ a ∈ μ.l ∨ a ∈ μ.h := Iff.rfl
/-- the function object o stands at f -/
def FunO (f : Addr) (o : Obj) : HO := .ext fun h => h.get? f = some o
/-- the defaults of a lambda: none, or the one number 0 -/
def DfO (b : Bool) (H : Hp) (μ : Mu) (dv : Value) : Prop := b = true → ∃ T, dv = .ref T ∧ H T = some (.tup [.int 0]) ∧ T ∉ μ
section
variable (K : PySem.W.Frag) (mg : Str → Option Value)
def SeqL (μ : Mu) (H : Hp) (a : Addr) (vs : List V) : Prop := (Rd H a (.lst vs) ∧ a ∉ μ) ∨ SqL K (fun _ => none) a vs
mutual
def Rep (μ : Mu) (H : Hp) : D → V → Prop
  | .none, v => v = .non
  | .bool b, v => v = .bl b
  | .int i, v => v = .int i
  | .str x, v => v = .str x
  | .ty n, v => v = .ty n
  | .tup ds, v => ∃ a vs, v = .ref a ∧ H a = some (.tup vs) ∧ a ∉ μ ∧ RepAll μ H ds vs
  | .lst ds, v => ∃ a vs, v = .ref a ∧ H a = some (.lst vs) ∧ a ∉ μ ∧ RepAll μ H ds vs
  | .ro ds, v => ∃ a vs, v = .ref a ∧ SeqL K μ H a vs ∧ RepAll μ H ds vs
  | .loc l, v => ∃ a, v = .ref a ∧ μ.l[l]? = some a
  | .glo x, v => ∃ a, v = .ref a ∧ mg x = some (.ref a)
  | .adr a, v => v = .ref a
  | .tpn ds, v => ∃ a vs o, v = .ref a ∧ (H a = some (.frz o (.tup vs)) ∧ o.dict = none) ∧ a ∉ μ ∧ RepAll μ H ds vs
  | .clo _ b q F, v => ∃ f c' pm ctv dv, v = .ref f ∧ (H f = some (FunO f (F pm c' ctv dv)) ∧ f ∉ μ) ∧ (H c' = some (LamX.CodeO c' q) ∧ c' ∉ μ) ∧ DfO b H μ dv
def RepAll (μ : Mu) (H : Hp) : List D → List V → Prop
  | [], vs => vs = []
  | d :: ds, vs => ∃ v r, vs = v :: r ∧ Rep μ H d v ∧ RepAll μ H ds r
end
def RepO (μ : Mu) (H : Hp) : O → Addr → Prop
  | .lst ds, a => ∃ vs, H a = some (.lst vs) ∧ RepAll K mg μ H ds vs
  | .dct false kvs, a => ∃ vs, ∃ ks : List Key, (H a = some (.dK (ks.zip vs)) ∧ kvs.map (·.1) = ks.map keyD) ∧ RepAll K mg μ H (kvs.map (·.2)) vs
  | .dct true kvs, a => ∃ vs, ∃ ks : List (List Key), (H a = some (.dT (ks.zip vs)) ∧ kvs.map (·.1) = ks.map keyTD) ∧ RepAll K mg μ H (kvs.map (·.2)) vs
  | .ins C fs, a => ∃ Ca dx vs, mg C = some (.ref Ca) ∧ H a = some (.ins Ca dx ((fs.map (·.1)).zip vs)) ∧ RepAll K mg μ H (fs.map (·.2)) vs
  | .fdc false kvs, a => ∃ vs, ∃ ks : List Key, ((∃ od, H a = some (.frz od (.dK (ks.zip vs)))) ∧ kvs.map (·.1) = ks.map keyD) ∧ RepAll K mg μ H (kvs.map (·.2)) vs
  | .fdc true kvs, a => ∃ vs, ∃ ks : List (List Key), ((∃ od, H a = some (.frz od (.dT (ks.zip vs)))) ∧ kvs.map (·.1) = ks.map keyTD) ∧ RepAll K mg μ H (kvs.map (·.2)) vs
/-- no table of code objects -/
def NTb (o : HO) : Prop := ∀ ps, o ≠ .tbl ps
/-- what may be hidden -/
def Hdn (o : HO) : Prop := (∃ xs, o = .lst xs) ∨ (∃ kvs, o = .dK kvs) ∨ ∃ kvs, o = .dT kvs
theorem Hdn.ntb {o : HO} (h : Hdn o) (ps : Array Value) : o ≠ .tbl ps := by
  rcases h with ⟨_, rfl⟩ | ⟨_, rfl⟩ | ⟨_, rfl⟩ <;> exact nofun
theorem Hdn.nc {o : HO} (h : Hdn o) (c : Addr) (q : Str) : o ≠ LamX.CodeO c q := by
  unfold LamX.CodeO
  rcases h with ⟨_, rfl⟩ | ⟨_, rfl⟩ | ⟨_, rfl⟩ <;> exact nofun
structure RelS (μ : Mu) (H : Hp) (S : Sto) : Prop where
  len : S.length = μ.l.length
  nd : μ.l.Nodup
  dis : ∀ a ∈ μ.l, a ∉ μ.h
  hid : ∀ a ∈ μ.h, ∃ u, H a = some u ∧ Hdn u
  at_ : ∀ (l : Nat) (o : O), S[l]? = some o → ∃ a, μ.l[l]? = some a ∧ RepO K mg μ H o a
  tab : LamX.Tabs (tbs K) H
structure RelE (μ : Mu) (H : Hp) (env : En) (σ : L2.St) : Prop where
  len : env.length = σ.length
  at_ : ∀ (i : Nat) (d : D), env[i]? = some (some d) → ∃ v, σ[i]? = some (some v) ∧ Rep K mg μ H d v
structure Rl (μ : Mu) (H : Hp) (env : En) (σ : L2.St) (S : Sto) : Prop where
  env : RelE K mg μ H env σ
  sto : RelS K mg μ H S
def RepX (μ : Mu) (H : Hp) (e : XV) (cls : Value) (dd : Option Addr) : Prop :=
  ∃ C, mg e.cls = some (.ref C) ∧ cls = .ref C ∧ ((e.fs = [] ∧ dd = none) ∨ e.fs ≠ [] ∧ ∃ d vs, dd = some d ∧ H d = some (.xd ((e.fs.map (·.1)).zip vs)) ∧ RepAll K mg μ H (e.fs.map (·.2)) vs)
end
/-- what stays as code runs -/
structure StpW (μ : Mu) (H : Hp) (μ' : Mu) (H' : Hp) : Prop where
  pre : ∃ t, μ'.l = μ.l ++ t
  new : ∀ a ∈ μ', a ∈ μ ∨ ∀ o, H a = some o → ¬ NTb o
  keep' : ∀ a o, H a = some o → a ∉ μ → NTb o → H' a = some o
/-- .. what is locked among it -/
structure Stp (μ : Mu) (H : Hp) (μ' : Mu) (H' : Hp) : Prop extends StpW μ H μ' H' where
  kf : ∀ a od u, H a = some (.frz od u) → H' a = some (.frz od u)
structure Step (μ : Mu) (H : Hp) (μ' : Mu) (H' : Hp) : Prop extends Stp μ H μ' H' where
  hid : μ'.h = μ.h
  hk' : ∀ a u, a ∈ μ.h → H a = some u → NTb u → H' a = some u
instance {μ μ' : Mu} {H H' : Hp} : Coe (Stp μ H μ' H') (StpW μ H μ' H') := ⟨Stp.toStpW⟩
theorem StpW.keep {μ μ' : Mu} {H H' : Hp} (s : StpW μ H μ' H') (a : Addr) (o : HO) (h : H a = some o) (n : a ∉ μ) (t : NTb o := by exact fun _ z => nomatch z) : H' a = some o := s.keep' a o h n t
theorem Step.hk {μ μ' : Mu} {H H' : Hp} (s : Step μ H μ' H') (a : Addr) (u : HO) (h : a ∈ μ.h) (e : H a = some u) (t : NTb u := by exact fun _ z => nomatch z) : H' a = some u := s.hk' a u h e t
theorem tbl_ntb (o : HO) : (∃ ps, o = .tbl ps) ∨ NTb o := by
  cases o with
  | tbl ps => exact .inl ⟨ps, rfl⟩
  | _ => exact .inr fun _ z => nomatch z
def Sm (H H' : Hp) : Prop := ∀ b o, H b = some o → H' b = some o
theorem Sm.rfl {H : Hp} : Sm H H := fun _ _ h => h
theorem Sm.trans {H H1 H2 : Hp} (a : Sm H H1) (b : Sm H1 H2) : Sm H H2 := fun c o h => b c o (a c o h)
theorem Sm.upd {H : Hp} {p : Addr} {o : HO} (h : H p = none) : Sm H (upd H p o) := fun b u e => by
  rw [upd_ne (ne_of_none e h)]; exact e
section
variable {μ μ' μ2 : Mu} {H H' H2 : Hp}
theorem Stp.refl : Stp μ H μ H := ⟨⟨⟨[], by simp⟩, fun _ h => .inl h, fun _ _ h _ _ => h⟩, fun _ _ _ h => h⟩
theorem Step.refl : Step μ H μ H := ⟨.refl, rfl, fun _ _ _ h _ => h⟩
theorem Step.of_sm (s : Sm H H') : Step μ H μ H' := ⟨⟨⟨⟨[], by simp⟩, fun _ h => .inl h, fun a o h _ _ => s a o h⟩, fun a _ _ h => s a _ h⟩, rfl, fun a u _ h _ => s a u h⟩
theorem StpW.notin (s : StpW μ H μ' H') {a : Addr} {o : HO} (h : H a = some o) (n : a ∉ μ) (t : NTb o := by exact fun _ z => nomatch z) : a ∉ μ' := fun z => by
  rcases s.new a z with e | e
  · exact n e
  · exact e o h t
theorem Step.notin (s : Step μ H μ' H') {a : Addr} {o : HO} (h : H a = some o) (n : a ∉ μ) (t : NTb o := by exact fun _ z => nomatch z) : a ∉ μ' := s.toStp.notin h n t
theorem Stp.trans (s : Stp μ H μ' H') (t : Stp μ' H' μ2 H2) : Stp μ H μ2 H2 := by
  obtain ⟨x, hx⟩ := s.pre
  obtain ⟨y, hy⟩ := t.pre
  refine ⟨⟨⟨x ++ y, by rw [hy, hx, List.append_assoc]⟩, fun a ha => ?_, fun a o h n nt => t.keep a o (s.keep a o h n nt) (s.notin h n nt) nt⟩, fun a od u h => t.kf a od u (s.kf a od u h)⟩
  rcases t.new a ha with e | e
  · exact s.new a e
  · by_cases h : a ∈ μ
    · exact .inl h
    · exact .inr fun o q nt => e o (s.keep a o q h nt) nt
theorem Step.trans (s : Step μ H μ' H') (t : Step μ' H' μ2 H2) : Step μ H μ2 H2 := ⟨s.toStp.trans t.toStp, t.hid.trans s.hid, fun a u ha h nt => t.hk a u (by rw [s.hid]; exact ha) (s.hk a u ha h nt) nt⟩
theorem StpW.get (s : StpW μ H μ' H') {l : Nat} {a : Addr} (h : μ.l[l]? = some a) : μ'.l[l]? = some a := by
  obtain ⟨t, e⟩ := s.pre
  have hl : l < μ.l.length := (List.getElem?_eq_some_iff.mp h).1
  rw [e, List.getElem?_append_left hl]; exact h
theorem Step.get (s : Step μ H μ' H') {l : Nat} {a : Addr} (h : μ.l[l]? = some a) : μ'.l[l]? = some a := s.toStp.get h
/-- a new one at p -/
theorem Step.new_loc {p : Addr} {o : HO} (h : H p = none) : Step μ H (μ.push p) (upd H p o) :=
  ⟨⟨⟨⟨[p], rfl⟩, fun a ha => by
    rcases ha with ha | ha
    · rcases List.mem_append.mp ha with e | e
      · exact .inl (.inl e)
      · have : a = p := by simpa using e
        subst this; exact .inr fun o q => by rw [h] at q; cases q
    · exact .inl (.inr ha), fun a u e _ _ => (by rw [upd_ne (ne_of_none e h)]; exact e)⟩, fun a _ _ e => (by rw [upd_ne (ne_of_none e h)]; exact e)⟩, rfl, fun a u _ e _ => by rw [upd_ne (ne_of_none e h)]; exact e⟩
theorem Stp.new_hid {p : Addr} {o : HO} (h : H p = none) : Stp μ H (μ.hide p) (upd H p o) :=
  ⟨⟨⟨[], by simp [Mu.hide]⟩, fun a ha => by
    rcases ha with ha | ha
    · exact .inl (.inl ha)
    · rcases List.mem_cons.mp ha with e | e
      · subst e; exact .inr fun o q => by rw [h] at q; cases q
      · exact .inl (.inr e), fun a u e _ _ => (by rw [upd_ne (ne_of_none e h)]; exact e)⟩, fun a _ _ e => (by rw [upd_ne (ne_of_none e h)]; exact e)⟩
/-- not locked -/
def NF (H : Hp) (p : Addr) : Prop := ∀ od u, H p ≠ some (.frz od u)
theorem NF.of {H : Hp} {p : Addr} {w : HO} (h : H p = some w) (hw : ∀ od u, w ≠ .frz od u := by exact fun _ _ z => nomatch z) : NF H p := fun od u z => by
  rw [h] at z; exact hw od u (Option.some.inj z)
theorem NF.ne {H : Hp} {p b : Addr} {od : Obj} {u : HO} (n : NF H p) (e : H b = some (.frz od u)) : b ≠ p := fun z => n od u (z ▸ e)
theorem Hdn.nf {H : Hp} {p : Addr} {u : HO} (e : H p = some u) (h : Hdn u) : NF H p := .of e (by rcases h with ⟨_, rfl⟩ | ⟨_, rfl⟩ | ⟨_, rfl⟩ <;> exact fun _ _ z => nomatch z)
theorem Stp.write_hid {p : Addr} {o : HO} (h : p ∈ μ.h) (nf : NF H p) : Stp μ H μ (upd H p o) :=
  ⟨⟨⟨[], by simp⟩, fun _ h => .inl h, fun b u e n _ => (by
    have : b ≠ p := fun z => n (z ▸ .inr h)
    rw [upd_ne this]; exact e)⟩, fun b _ _ e => (by rw [upd_ne (nf.ne e)]; exact e)⟩
theorem Step.write' {l : Nat} {a : Addr} {o : HO} (h : μ.l[l]? = some a) (hd : a ∉ μ.h) (nf : NF H a) : Step μ H μ (upd H a o) :=
  ⟨⟨⟨⟨[], by simp⟩, fun _ h => .inl h, fun b u e n _ => (by
    have : b ≠ a := fun z => n (z ▸ .inl (List.mem_of_getElem? h))
    rw [upd_ne this]; exact e)⟩, fun b _ _ e => (by rw [upd_ne (nf.ne e)]; exact e)⟩, rfl, fun b u hb e _ => by
    have : b ≠ a := fun z => hd (z ▸ hb)
    rw [upd_ne this]; exact e⟩
variable {K : PySem.W.Frag} {mg : Str → Option Value}
theorem SeqL.sq {a : Addr} {vs : List V} (h : SeqL K μ H a vs) : SqL K H a vs := by
  rcases h with h | h | h
  · exact .inl h.1
  · rcases h with z | ⟨o, z⟩ <;> cases z
  · exact .inr h
theorem rd_stepW (s : StpW μ H μ' H') {a : Addr} {u : HO} (h : Rd H a u) (n : a ∉ μ) (t : NTb u := by exact fun _ z => nomatch z) : Rd H' a u ∧ a ∉ μ' := by
  rcases h with h | ⟨o, h⟩
  · exact ⟨.inl (s.keep _ _ h n t), s.notin h n t⟩
  · exact ⟨.inr ⟨o, s.keep _ _ h n⟩, s.notin h n⟩
theorem SeqL.stpW (s : StpW μ H μ' H') {a : Addr} {vs : List V} (h : SeqL K μ H a vs) : SeqL K μ' H' a vs := by
  rcases h with h | h
  · exact .inl (rd_stepW s h.1 h.2)
  · exact .inr h
mutual
theorem Rep.stpW (s : StpW μ H μ' H') : ∀ (d : D) (v : V), Rep K mg μ H d v → Rep K mg μ' H' d v
  | .none, _, h => by unfold Rep at *; exact h
  | .bool _, _, h => by unfold Rep at *; exact h
  | .int _, _, h => by unfold Rep at *; exact h
  | .str _, _, h => by unfold Rep at *; exact h
  | .ty _, _, h => by unfold Rep at *; exact h
  | .tup ds, _, h => by
    unfold Rep at *
    obtain ⟨a, vs, e, h1, n, h2⟩ := h
    exact ⟨a, vs, e, s.keep _ _ h1 n, s.notin h1 n, RepAll.stpW s ds vs h2⟩
  | .lst ds, _, h => by
    unfold Rep at *
    obtain ⟨a, vs, e, h1, n, h2⟩ := h
    exact ⟨a, vs, e, s.keep _ _ h1 n, s.notin h1 n, RepAll.stpW s ds vs h2⟩
  | .ro ds, _, h => by
    unfold Rep at *
    obtain ⟨a, vs, e, h1, h2⟩ := h
    exact ⟨a, vs, e, h1.stpW s, RepAll.stpW s ds vs h2⟩
  | .loc l, _, h => by
    unfold Rep at *
    obtain ⟨a, e, h1⟩ := h
    exact ⟨a, e, s.get h1⟩
  | .glo _, _, h => by unfold Rep at *; exact h
  | .adr _, _, h => by unfold Rep at *; exact h
  | .clo _ b q F, _, h => by
    unfold Rep at *
    obtain ⟨f, c', pm, ctv, dv, e, ⟨h1, n1⟩, ⟨h2, n2⟩, h3⟩ := h
    have t1 : NTb (FunO f (F pm c' ctv dv)) := fun _ z => by unfold FunO at z; cases z
    have t2 : NTb (LamX.CodeO c' q) := fun _ z => by unfold LamX.CodeO at z; cases z
    refine ⟨f, c', pm, ctv, dv, e, ⟨s.keep _ _ h1 n1 t1, s.notin h1 n1 t1⟩, ⟨s.keep _ _ h2 n2 t2, s.notin h2 n2 t2⟩, fun hb => ?_⟩
    obtain ⟨T, h3, h4, h5⟩ := h3 hb
    exact ⟨T, h3, s.keep _ _ h4 h5, s.notin h4 h5⟩
  | .tpn ds, _, h => by
    unfold Rep at *
    obtain ⟨a, vs, o, e, ⟨h1, hd⟩, n, h2⟩ := h
    exact ⟨a, vs, o, e, ⟨s.keep _ _ h1 n, hd⟩, s.notin h1 n, RepAll.stpW s ds vs h2⟩
theorem RepAll.stpW (s : StpW μ H μ' H') : ∀ (ds : List D) (vs : List V), RepAll K mg μ H ds vs → RepAll K mg μ' H' ds vs
  | [], _, h => by unfold RepAll at *; exact h
  | d :: ds, _, h => by
    unfold RepAll at *
    obtain ⟨v, r, e, h1, h2⟩ := h
    exact ⟨v, r, e, Rep.stpW s d v h1, RepAll.stpW s ds r h2⟩
end
theorem rd_step (s : Stp μ H μ' H') {a : Addr} {u : HO} (h : Rd H a u) (n : a ∉ μ) (t : NTb u := by exact fun _ z => nomatch z) : Rd H' a u ∧ a ∉ μ' := rd_stepW s.toStpW h n t
theorem SeqL.stp (s : Stp μ H μ' H') {a : Addr} {vs : List V} (h : SeqL K μ H a vs) : SeqL K μ' H' a vs := h.stpW s.toStpW
theorem Rep.stp (s : Stp μ H μ' H') (d : D) (v : V) (h : Rep K mg μ H d v) : Rep K mg μ' H' d v := Rep.stpW s.toStpW d v h
theorem RepAll.stp (s : Stp μ H μ' H') (ds : List D) (vs : List V) (h : RepAll K mg μ H ds vs) : RepAll K mg μ' H' ds vs := RepAll.stpW s.toStpW ds vs h
theorem Rep.step (s : Step μ H μ' H') (d : D) (v : V) (h : Rep K mg μ H d v) : Rep K mg μ' H' d v := Rep.stp s.toStp d v h
theorem RepAll.step (s : Step μ H μ' H') (d : List D) (v : List V) (h : RepAll K mg μ H d v) : RepAll K mg μ' H' d v := RepAll.stp s.toStp d v h
theorem SeqL.step (s : Step μ H μ' H') {a : Addr} {vs : List V} (h : SeqL K μ H a vs) : SeqL K μ' H' a vs := h.stp s.toStp
theorem RepAll.length : ∀ {ds : List D} {vs : List V}, RepAll K mg μ H ds vs → ds.length = vs.length
  | [], _, h => by unfold RepAll at h; subst h; rfl
  | d :: ds, _, h => by
    unfold RepAll at h
    obtain ⟨v, r, rfl, _, h2⟩ := h
    simp [RepAll.length h2]
theorem RepAll.get : ∀ {ds : List D} {vs : List V} {i : Nat} {d : D}, RepAll K mg μ H ds vs → ds[i]? = some d → ∃ v, vs[i]? = some v ∧ Rep K mg μ H d v
  | [], _, _, _, _, e => by simp at e
  | d :: ds, _, 0, _, h, e => by
    unfold RepAll at h
    obtain ⟨v, r, rfl, h1, _⟩ := h
    simp at e; subst e
    exact ⟨v, rfl, h1⟩
  | d :: ds, _, i + 1, _, h, e => by
    unfold RepAll at h
    obtain ⟨v, r, rfl, _, h2⟩ := h
    obtain ⟨u, e1, e2⟩ := RepAll.get (i := i) h2 (by simpa using e)
    exact ⟨u, by simpa using e1, e2⟩
theorem RepAll.nil : RepAll K mg μ H [] [] := by unfold RepAll; rfl
theorem RepAll.cons {d : D} {ds : List D} {v : V} {vs : List V} (h : Rep K mg μ H d v) (t : RepAll K mg μ H ds vs) : RepAll K mg μ H (d :: ds) (v :: vs) := by
  unfold RepAll; exact ⟨v, vs, rfl, h, t⟩
theorem RepAll.append : ∀ {ds es : List D} {vs us : List V}, RepAll K mg μ H ds vs → RepAll K mg μ H es us → RepAll K mg μ H (ds ++ es) (vs ++ us)
  | [], _, _, _, h, t => by unfold RepAll at h; subst h; exact t
  | d :: ds, _, _, _, h, t => by
    unfold RepAll at h
    obtain ⟨v, r, rfl, h1, h2⟩ := h
    exact .cons h1 (RepAll.append h2 t)
theorem RepAll.take : ∀ {ds : List D} {vs : List V} (n : Nat), RepAll K mg μ H ds vs → RepAll K mg μ H (ds.take n) (vs.take n)
  | _, _, 0, _ => by simp only [List.take_zero]; exact .nil
  | [], _, n + 1, h => by unfold RepAll at h; subst h; simp only [List.take_nil]; exact .nil
  | d :: ds, _, n + 1, h => by
    unfold RepAll at h
    obtain ⟨v, r, rfl, h1, h2⟩ := h
    exact .cons h1 (RepAll.take n h2)
theorem RepAll.drop : ∀ {ds : List D} {vs : List V} (n : Nat), RepAll K mg μ H ds vs → RepAll K mg μ H (ds.drop n) (vs.drop n)
  | _, _, 0, h => h
  | [], _, n + 1, h => by unfold RepAll at h; subst h; simp only [List.drop_nil]; exact .nil
  | d :: ds, _, n + 1, h => by
    unfold RepAll at h
    obtain ⟨v, r, rfl, h1, h2⟩ := h
    exact RepAll.drop n h2
theorem RepAll.set {d : D} {v : V} (r : Rep K mg μ H d v) : ∀ {ds : List D} {vs : List V} (i : Nat), RepAll K mg μ H ds vs → RepAll K mg μ H (ds.set i d) (vs.set i v)
  | [], _, i, h => by unfold RepAll at h; subst h; exact .nil
  | e :: ds, _, 0, h => by
    unfold RepAll at h
    obtain ⟨w, q, rfl, h1, h2⟩ := h
    exact .cons r h2
  | e :: ds, _, i + 1, h => by
    unfold RepAll at h
    obtain ⟨w, q, rfl, h1, h2⟩ := h
    exact .cons h1 (RepAll.set r i h2)
theorem RepO.step_sm (s : Sm H H') {o : O} {a : Addr} (h : RepO K mg μ H o a) : RepO K mg μ H' o a := by
  have st : Step μ H μ H' := .of_sm s
  cases o with
  | lst ds => obtain ⟨vs, h1, h2⟩ := h; exact ⟨vs, s _ _ h1, RepAll.step st _ _ h2⟩
  | dct t kvs =>
    cases t <;> (obtain ⟨vs, ks, ⟨e, k⟩, h2⟩ := h; exact ⟨vs, ks, ⟨s _ _ e, k⟩, RepAll.step st _ _ h2⟩)
  | ins C fs => obtain ⟨Ca, dx, vs, g, h1, h2⟩ := h; exact ⟨Ca, dx, vs, g, s _ _ h1, RepAll.step st _ _ h2⟩
  | fdc t kvs =>
    cases t <;> (obtain ⟨vs, ks, ⟨⟨od, e⟩, k⟩, h2⟩ := h; exact ⟨vs, ks, ⟨⟨od, s _ _ e⟩, k⟩, RepAll.step st _ _ h2⟩)
/-- its own object stays -/
theorem RepO.stepW (st : StpW μ H μ' H') {o : O} {a : Addr} (e : ∀ u, H a = some u → H' a = some u) (h : RepO K mg μ H o a) : RepO K mg μ' H' o a := by
  cases o with
  | lst ds => obtain ⟨vs, h1, h2⟩ := h; exact ⟨vs, e _ h1, RepAll.stpW st _ _ h2⟩
  | dct t kvs =>
    cases t <;> (obtain ⟨vs, ks, ⟨q, k⟩, h2⟩ := h; exact ⟨vs, ks, ⟨e _ q, k⟩, RepAll.stpW st _ _ h2⟩)
  | ins C fs => obtain ⟨Ca, dx, vs, g, h1, h2⟩ := h; exact ⟨Ca, dx, vs, g, e _ h1, RepAll.stpW st _ _ h2⟩
  | fdc t kvs =>
    cases t <;> (obtain ⟨vs, ks, ⟨⟨od, q⟩, k⟩, h2⟩ := h; exact ⟨vs, ks, ⟨⟨od, e _ q⟩, k⟩, RepAll.stpW st _ _ h2⟩)
theorem RepO.step (st : Stp μ H μ' H') {o : O} {a : Addr} (e : ∀ u, H a = Option.some u → H' a = Option.some u) (h : RepO K mg μ H o a) : RepO K mg μ' H' o a := h.stepW st.toStpW e
theorem RepO.some {o : O} {a : Addr} (h : RepO K mg μ H o a) : ∃ u, H a = some u := by
  cases o with
  | lst ds => obtain ⟨vs, h1, h2⟩ := h; exact ⟨_, h1⟩
  | dct t kvs =>
    cases t <;> (obtain ⟨vs, ks, ⟨q, k⟩, h2⟩ := h; exact ⟨_, q⟩)
  | ins C fs => obtain ⟨Ca, dx, vs, g, h1, h2⟩ := h; exact ⟨_, h1⟩
  | fdc t kvs =>
    cases t <;> (obtain ⟨vs, ks, ⟨⟨od, q⟩, k⟩, h2⟩ := h; exact ⟨_, q⟩)
theorem RepO.nt {o : O} {a : Addr} (h : RepO K mg μ H o a) {ps : Array Value} (e : H a = Option.some (HO.tbl ps)) : False := by
  cases o with
  | lst ds => obtain ⟨vs, h1, h2⟩ := h; rw [e] at h1; cases h1
  | dct t kvs =>
    cases t <;> (obtain ⟨vs, ks, ⟨q, k⟩, h2⟩ := h; rw [e] at q; cases q)
  | ins C fs => obtain ⟨Ca, dx, vs, g, h1, h2⟩ := h; rw [e] at h1; cases h1
  | fdc t kvs =>
    cases t <;> (obtain ⟨vs, ks, ⟨⟨od, q⟩, k⟩, h2⟩ := h; rw [e] at q; cases q)
variable {S : Sto} {env : En} {σ : L2.St}
theorem RelS.sm (s : Sm H H') (h : RelS K mg μ H S) : RelS K mg μ H' S :=
  ⟨h.len, h.nd, h.dis, fun a ha => let ⟨u, e, t⟩ := h.hid a ha; ⟨u, s a u e, t⟩, fun l o e => let ⟨a, h1, h2⟩ := h.at_ l o e; ⟨a, h1, h2.step_sm s⟩, h.tab.ext s⟩
theorem RelE.stpW (s : StpW μ H μ' H') (h : RelE K mg μ H env σ) : RelE K mg μ' H' env σ :=
  ⟨h.len, fun i d e => let ⟨v, h1, h2⟩ := h.at_ i d e; ⟨v, h1, Rep.stpW s _ _ h2⟩⟩
theorem RelE.stp (s : Stp μ H μ' H') (h : RelE K mg μ H env σ) : RelE K mg μ' H' env σ := h.stpW s.toStpW
theorem RelE.step (s : Step μ H μ' H') (h : RelE K mg μ H env σ) : RelE K mg μ' H' env σ := h.stp s.toStp
theorem RelE.set (h : RelE K mg μ H env σ) {i : Nat} {d : D} {v : V} (r : Rep K mg μ H d v) : RelE K mg μ H (env.set i (some d)) (σ.set i (some v)) := by
  refine ⟨by simp [h.len], fun j e q => ?_⟩
  by_cases hj : j = i
  · subst hj
    have hl : j < env.length := by
      have := (List.getElem?_eq_some_iff.mp q).1; simpa using this
    rw [List.getElem?_set_self hl] at q
    cases q
    exact ⟨v, by rw [List.getElem?_set_self (by rw [← h.len]; exact hl)], r⟩
  · rw [List.getElem?_set_ne (Ne.symm hj)] at q
    rw [List.getElem?_set_ne (Ne.symm hj)]
    exact h.at_ j e q
theorem Rl.sm (s : Sm H H') (h : Rl K mg μ H env σ S) : Rl K mg μ H' env σ S := ⟨h.env.step (.of_sm s), h.sto.sm s⟩
theorem RelS.notin (rs : RelS K mg μ H S) {p : Addr} (hp : H p = none) : p ∉ μ.l := fun z => by
  obtain ⟨l, hl, e⟩ := List.getElem_of_mem z
  obtain ⟨a', h1, h2⟩ := rs.at_ l (S[l]'(by rw [rs.len]; exact hl)) (List.getElem?_eq_getElem (by rw [rs.len]; exact hl))
  rw [List.getElem?_eq_getElem hl, e] at h1; cases h1
  obtain ⟨u, hu⟩ := h2.some
  rw [hp] at hu; cases hu
theorem RelS.notinH (rs : RelS K mg μ H S) {p : Addr} (hp : H p = none) : p ∉ μ.h := fun z => by
  obtain ⟨u, e, _⟩ := rs.hid p z
  rw [hp] at e; cases e
theorem RelS.fresh (rs : RelS K mg μ H S) {p : Addr} (hp : H p = none) : p ∉ μ := fun z => z.elim (rs.notin hp) (rs.notinH hp)
theorem RelS.ntab (rs : RelS K mg μ H S) {l : Nat} {a : Addr} (hl : μ.l[l]? = some a) {ps : Array Value} (e : H a = Option.some (HO.tbl ps)) : False := by
  have hl2 : l < S.length := by rw [rs.len]; exact (List.getElem?_eq_some_iff.mp hl).1
  obtain ⟨a', h1, h2⟩ := rs.at_ l _ (List.getElem?_eq_getElem hl2)
  rw [hl] at h1; cases h1
  exact h2.nt e
theorem tabs_upd {T : List (Addr × Str)} {p : Addr} {ho : HO} (h : LamX.Tabs T H) (n : ∀ ps, H p ≠ some (.tbl ps)) (nc : ∀ c q, H p ≠ some (LamX.CodeO c q)) : LamX.Tabs T (upd H p ho) := fun q hq => by
  obtain ⟨ps, h1, h2, h3⟩ := h q hq
  refine ⟨ps, by rw [upd_ne fun z => n ps (by rw [← z]; exact h1)]; exact h1, h2, fun pos cv e => ?_⟩
  obtain ⟨c, e1, e2⟩ := h3 pos cv e
  exact ⟨c, e1, by rw [upd_ne fun z => nc c q.2 (by rw [← z]; exact e2)]; exact e2⟩
theorem RepO.nc {o : O} {a c : Addr} {q : Str} (h : RepO K mg μ H o a) (e : H a = Option.some (LamX.CodeO c q)) : False := by
  unfold LamX.CodeO at e
  cases o with
  | lst ds => obtain ⟨vs, h1, h2⟩ := h; rw [e] at h1; cases h1
  | dct t kvs =>
    cases t <;> (obtain ⟨vs, ks, ⟨q, k⟩, h2⟩ := h; rw [e] at q; cases q)
  | ins C fs => obtain ⟨Ca, dx, vs, g, h1, h2⟩ := h; rw [e] at h1; cases h1
  | fdc t kvs =>
    cases t <;> (obtain ⟨vs, ks, ⟨⟨od, q⟩, k⟩, h2⟩ := h; rw [e] at q; cases q)
theorem RelS.ncode (rs : RelS K mg μ H S) {l : Nat} {a c : Addr} {q : Str} (hl : μ.l[l]? = some a) (e : H a = Option.some (LamX.CodeO c q)) : False := by
  have hl2 : l < S.length := by rw [rs.len]; exact (List.getElem?_eq_some_iff.mp hl).1
  obtain ⟨a', h1, h2⟩ := rs.at_ l _ (List.getElem?_eq_getElem hl2)
  rw [hl] at h1; cases h1
  exact h2.nc e
/-- a new object -/
theorem RelS.push (h : RelS K mg μ H S) {p : Addr} {ho : HO} {o : O} (hp : H p = none) (r : RepO K mg (μ.push p) (upd H p ho) o p) : RelS K mg (μ.push p) (upd H p ho) (S ++ [o]) := by
  have st : Step μ H (μ.push p) (upd H p ho) := .new_loc hp
  have np : p ∉ μ.l := h.notin hp
  have hh : p ∉ μ.h := h.notinH hp
  refine ⟨by simp [h.len, Mu.push], List.nodup_append.mpr ⟨h.nd, by simp, fun a ha b hb => ?_⟩, fun a ha => ?_, fun a ha => ?_, fun l u e => ?_, h.tab.ext (Sm.upd hp)⟩
  · have : b = p := by simpa using hb
    subst this
    exact fun z => np (z ▸ ha)
  · rcases List.mem_append.mp ha with e | e
    · exact h.dis a e
    · have : a = p := by simpa using e
      subst this; exact hh
  · obtain ⟨u, e, t⟩ := h.hid a ha
    exact ⟨u, by rw [upd_ne (ne_of_none e hp)]; exact e, t⟩
  · by_cases hl : l < S.length
    · rw [List.getElem?_append_left hl] at e
      obtain ⟨a, h1, h2⟩ := h.at_ l u e
      exact ⟨a, st.get h1, h2.step st.toStp fun w q => by rw [upd_ne (ne_of_none q hp)]; exact q⟩
    · rw [List.getElem?_append_right (by omega)] at e
      have hl2 : l - S.length = 0 := by
        have := (List.getElem?_eq_some_iff.mp e).1
        simp at this; omega
      rw [hl2] at e
      simp at e
      subst e
      have : l = S.length := by omega
      subst this
      exact ⟨p, by rw [h.len]; simp [Mu.push], r⟩
/-- an object written -/
theorem RelS.write (h : RelS K mg μ H S) {l : Nat} {p : Addr} {ho : HO} {o : O} (hp : μ.l[l]? = some p) (nf : NF H p) (r : RepO K mg μ (upd H p ho) o p) : RelS K mg μ (upd H p ho) (S.set l o) := by
  have st : Step μ H μ (upd H p ho) := .write' hp (h.dis p (List.mem_of_getElem? hp)) nf
  refine ⟨by simp [h.len], h.nd, h.dis, fun a ha => ?_, fun j u e => ?_, tabs_upd h.tab (fun ps z => h.ntab hp z) fun c q z => h.ncode hp z⟩
  · obtain ⟨u, e, t⟩ := h.hid a ha
    by_cases hap : a = p
    · subst hap
      exact absurd ha (h.dis a (List.mem_of_getElem? hp))
    · exact ⟨u, by rw [upd_ne hap]; exact e, t⟩
  by_cases hj : j = l
  · subst hj
    have hl : j < S.length := by
      have := (List.getElem?_eq_some_iff.mp e).1; simpa using this
    rw [List.getElem?_set_self hl] at e
    cases e
    exact ⟨p, hp, r⟩
  · rw [List.getElem?_set_ne (Ne.symm hj)] at e
    obtain ⟨a, h1, h2⟩ := h.at_ j u e
    have na : a ≠ p := fun z => by
      subst z
      have e1 := List.getElem?_eq_some_iff.mp h1
      have e2 := List.getElem?_eq_some_iff.mp hp
      exact hj ((List.getElem_inj h.nd).mp (e1.2.trans e2.2.symm))
    exact ⟨a, h1, h2.step st.toStp fun w q => by rw [upd_ne na]; exact q⟩
theorem Step.write (h : RelS K mg μ H S) {l : Nat} {a : Addr} {o : HO} (hp : μ.l[l]? = some a) (nf : NF H a) : Step μ H μ (upd H a o) := .write' hp (h.dis a (List.mem_of_getElem? hp)) nf
/-- something hidden is made, is written -/
theorem RelS.hide (h : RelS K mg μ H S) {p : Addr} {ho : HO} (hp : H p = none) (ht : Hdn ho := by first | exact .inl ⟨_, rfl⟩ | exact .inr (.inl ⟨_, rfl⟩) | exact .inr (.inr ⟨_, rfl⟩)) : RelS K mg (μ.hide p) (upd H p ho) S := by
  have st : Stp μ H (μ.hide p) (upd H p ho) := .new_hid hp
  have np := h.notin hp
  refine ⟨h.len, h.nd, fun a ha => ?_, fun a ha => ?_, fun l o e => ?_, h.tab.ext (Sm.upd hp)⟩
  · intro z
    rcases List.mem_cons.mp z with e | e
    · subst e; exact np ha
    · exact h.dis a ha e
  · rcases List.mem_cons.mp ha with e | e
    · subst e; exact ⟨_, upd_same, ht⟩
    · obtain ⟨u, e, t⟩ := h.hid a e
      exact ⟨u, by rw [upd_ne (ne_of_none e hp)]; exact e, t⟩
  · obtain ⟨a, h1, h2⟩ := h.at_ l o e
    exact ⟨a, h1, h2.step st fun u q => by rw [upd_ne (ne_of_none q hp)]; exact q⟩
theorem RelS.write_hid (h : RelS K mg μ H S) {p : Addr} {ho : HO} (hp : p ∈ μ.h) (ht : Hdn ho := by first | exact .inl ⟨_, rfl⟩ | exact .inr (.inl ⟨_, rfl⟩) | exact .inr (.inr ⟨_, rfl⟩)) : RelS K mg μ (upd H p ho) S := by
  have st : Stp μ H μ (upd H p ho) := .write_hid hp (by obtain ⟨u, e, t⟩ := h.hid p hp; exact Hdn.nf e t)
  refine ⟨h.len, h.nd, h.dis, fun a ha => ?_, fun l o e => ?_, tabs_upd h.tab (fun ps z => ?_) fun c q z => ?_⟩
  · obtain ⟨u, e, t⟩ := h.hid a ha
    by_cases hap : a = p
    · exact ⟨_, by rw [hap]; exact upd_same, ht⟩
    · exact ⟨u, by rw [upd_ne hap]; exact e, t⟩
  rotate_left
  · obtain ⟨u, e, t⟩ := h.hid p hp
    rw [z] at e; cases e
    exact t.ntb ps rfl
  · obtain ⟨u, e, t⟩ := h.hid p hp
    rw [z] at e; cases e
    exact t.nc c q rfl
  obtain ⟨a, h1, h2⟩ := h.at_ l o e
  have na : a ≠ p := fun z => h.dis a (List.mem_of_getElem? h1) (z ▸ hp)
  exact ⟨a, h1, h2.step st fun u q => by rw [upd_ne na]; exact q⟩
/-- less is hidden -/
theorem Stp.unhide {h' : List Addr} (hs : ∀ a ∈ h', a ∈ μ.h) : Stp μ H ⟨μ.l, h'⟩ H := ⟨⟨⟨[], by simp⟩, fun a ha => .inl (ha.elim .inl fun z => .inr (hs a z)), fun _ _ e _ _ => e⟩, fun _ _ _ e => e⟩
theorem RelS.unhide {h' : List Addr} (hs : ∀ a ∈ h', a ∈ μ.h) (h : RelS K mg μ H S) : RelS K mg ⟨μ.l, h'⟩ H S :=
  ⟨h.len, h.nd, fun a ha z => h.dis a ha (hs a z), fun a ha => h.hid a (hs a ha), fun l o e => let ⟨a, h1, h2⟩ := h.at_ l o e; ⟨a, h1, h2.step (.unhide hs) fun _ q => q⟩, h.tab⟩
end
end DL

set_option Elab.async false
set_option linter.all false
set_option maxRecDepth 100000
/-! DL2: what code gives; expressions. -/
namespace DL
open PySem PySem.Spec PyProof.Rows L2

inductive Res (α : Type) where
  | ok (a : α) (S : Sto) | exc (e : XV) (S : Sto) | stuck
abbrev ME := En → Sto → Res D
abbrev MA := En → Sto → Res (List D)
abbrev MT := En → Sto → Res Bool
def Res.bind {α β : Type} : Res α → (α → Sto → Res β) → Res β
  | .ok a S, f => f a S
  | .exc e S, _ => .exc e S
  | .stuck, _ => .stuck
def ofO {α : Type} (S : Sto) : Option α → Res α
  | some a => .ok a S
  | none => .stuck

section
variable (K : PySem.W.Frag) (mg : Str → Option Value)
def Out {α β : Type} (W : WX) (σ : L2.St) (μ : Mu) (H : Hp) (R : Mu → Hp → α → β → Prop) (Q : β → Hp → Prop) : Res α → Prop
  | .ok a S => ∀ μ' H' b, Step μ H μ' H' → RelS K mg μ' H' S → R μ' H' a b → Q b H'
  | .exc e S => ∀ μ' H' cls dd, Step μ H μ' H' → RelS K mg μ' H' S → RepX K mg μ' H' e cls dd → W cls dd σ H'
  | .stuck => False
end
section
variable {K : PySem.W.Frag} {mg : Str → Option Value} {α α' β β' : Type} {W : WX} {σ : L2.St} {μ μ1 : Mu} {H H1 : Hp} {R : Mu → Hp → α → β → Prop} {R' : Mu → Hp → α' → β' → Prop}
theorem Out.of_step {Q : β → Hp → Prop} {r : Res α} (st : Step μ H μ1 H1) (o : Out K mg W σ μ H R Q r) : Out K mg W σ μ1 H1 R Q r := by
  cases r with
  | ok a S => exact fun μ' H' b s => o μ' H' b (st.trans s)
  | exc e S => exact fun μ' H' c d s => o μ' H' c d (st.trans s)
  | stuck => exact o
theorem Out.mono {Q Q' : β → Hp → Prop} {r : Res α} (o : Out K mg W σ μ H R Q r) (h : ∀ b H', Q b H' → Q' b H') : Out K mg W σ μ H R Q' r := by
  cases r with
  | ok a S => exact fun μ' H' b s t u => h _ _ (o μ' H' b s t u)
  | exc e S => exact o
  | stuck => exact o
theorem Out.bind {Q : β' → Hp → Prop} {r : Res α} {f : α → Sto → Res α'} (o : Out K mg W σ μ H R' Q (r.bind f)) :
    Out K mg W σ μ H R (fun b H1 => ∃ μ1 S1 a, Step μ H μ1 H1 ∧ RelS K mg μ1 H1 S1 ∧ R μ1 H1 a b ∧ Out K mg W σ μ1 H1 R' Q (f a S1)) r := by
  cases r with
  | ok a S => exact fun μ' H' b s t u => ⟨μ', S, a, s, t, u, Out.of_step s o⟩
  | exc e S => exact o
  | stuck => exact o
end
/-- the reading of a computation -/
def tM (X : Cx) {α β : Type} (R : Mu → Hp → α → β → Prop) (W : WX) (m : En → Sto → Res α) : L2.St → Hp → (β → Hp → Prop) → Prop := fun σ H Q =>
  ∃ env S μ, Rl X.K X.mg μ H env σ S ∧ Out X.K X.mg W σ μ H R Q (m env S)
abbrev tE (X : Cx) (W : WX) (m : ME) : TE := tM X (fun μ H a b => Rep X.K X.mg μ H a b) W m
abbrev tAs (X : Cx) (W : WX) (m : MA) : TA := tM X (fun μ H a b => RepAll X.K X.mg μ H a b) W m
abbrev tT (X : Cx) (W : WX) (m : MT) : TT := tM X (fun _ _ a b => b = a) W m
theorem pe_to {X : Cx} {e : Expr} {t t' : TE} (h : PE X e t) (i : ∀ σ H Q, t' σ H Q → t σ H Q) : PE X e t' := ⟨fun pins s σ H Q I w => h.run pins s σ H Q I (i σ H Q w)⟩
theorem pt_to {X : Cx} {e : Expr} {t t' : TT} (h : PT X e t) (i : ∀ σ H Q, t' σ H Q → t σ H Q) : PT X e t' := ⟨fun pins s σ H Q I w => h.run pins s σ H Q I (i σ H Q w)⟩
theorem pw_to {X : Cx} {e : Expr} {t t' : TT} (h : PW X e t) (i : ∀ σ H Q, t' σ H Q → t σ H Q) : PW X e t' := ⟨fun wh pins s σ H Q I w => h.run wh pins s σ H Q I (i σ H Q w)⟩
theorem pa_to {X : Cx} {e : List Expr} {t t' : TA} (h : PA X e t) (i : ∀ σ H Q, t' σ H Q → t σ H Q) : PA X e t' := ⟨fun p pins s σ H Q I w => h.run p pins s σ H Q I (i σ H Q w)⟩

/-! ### a list in the store, seen as a list -/
def vt : D → D
  | .tpn xs => .tup xs
  | d => d
def view0 (S : Sto) : D → D
  | .loc l => match S[l]? with
    | some (.lst xs) => .lst xs
    | _ => .loc l
  | d => d
def view (S : Sto) (d : D) : D := vt (view0 S d)
section
variable (K : PySem.W.Frag) (mg : Str → Option Value)
def RepV (μ : Mu) (H : Hp) : D → V → Prop
  | .lst ds, v => ∃ a vs, v = .ref a ∧ H a = some (.lst vs) ∧ RepAll K mg μ H ds vs
  | d, v => Rep K mg μ H d v
def RepW (μ : Mu) (H : Hp) : D → V → Prop
  | .lst ds, v => ∃ a vs, v = .ref a ∧ H a = some (.lst vs) ∧ RepAll K mg μ H ds vs
  | .tup ds, v => ∃ a vs, v = .ref a ∧ Rd H a (.tup vs) ∧ RepAll K mg μ H ds vs ∧ a ∉ μ
  | d, v => Rep K mg μ H d v
end
section
variable {K : PySem.W.Frag} {mg : Str → Option Value} {μ μ1 : Mu} {H H1 : Hp} {S : Sto}
theorem Rep.wv {d : D} {v : V} (h : Rep K mg μ H d v) : RepV K mg μ H d v := by
  cases d with
  | lst ds =>
    unfold Rep at h
    obtain ⟨a, vs, e, h1, _, h2⟩ := h
    exact ⟨a, vs, e, h1, h2⟩
  | _ => exact h
theorem RepV.vt {d : D} {v : V} (h : RepV K mg μ H d v) : RepW K mg μ H (vt d) v := by
  cases d with
  | lst ds => exact h
  | tup ds =>
    have h : Rep K mg μ H (.tup ds) v := h
    unfold Rep at h
    obtain ⟨a, vs, e, h1, n, h2⟩ := h
    exact ⟨a, vs, e, .of h1, h2, n⟩
  | tpn ds =>
    have h : Rep K mg μ H (.tpn ds) v := h
    unfold Rep at h
    obtain ⟨a, vs, o, e, ⟨h1, _⟩, n, h2⟩ := h
    exact ⟨a, vs, e, .inr ⟨o, h1⟩, h2, n⟩
  | _ => exact h
theorem Rep.w {d : D} {v : V} (h : Rep K mg μ H d v) : RepW K mg μ H d v := by
  cases d with
  | lst ds => exact h.wv
  | tup ds => exact h.wv.vt
  | _ => exact h
theorem RelS.view0 (rs : RelS K mg μ H S) {d : D} {v : V} (h : Rep K mg μ H d v) : RepV K mg μ H (view0 S d) v := by
  cases d with
  | loc l =>
    show RepV K mg μ H (match S[l]? with | some (.lst xs) => .lst xs | _ => .loc l) v
    split
    · rename_i xs e
      unfold Rep at h
      obtain ⟨a, ev, ha⟩ := h
      obtain ⟨a', h1, vs, h2, h3⟩ := rs.at_ l _ e
      rw [ha] at h1; cases h1
      exact ⟨a, vs, ev, h2, h3⟩
    · exact h.wv
  | _ => exact h.wv
theorem RelS.view (rs : RelS K mg μ H S) {d : D} {v : V} (h : Rep K mg μ H d v) : RepW K mg μ H (view S d) v := (rs.view0 h).vt
end

/-! ### operators by values -/
def rS (K : PySem.W.Frag) (mg : Str → Option Value) (f : Sto → D → D → Option D) : R2 := fun x y H Q =>
  ∃ μ S a b d, RelS K mg μ H S ∧ Rep K mg μ H a x ∧ Rep K mg μ H b y ∧ f S a b = some d ∧ ∀ H' v, Sm H H' → Rep K mg μ H' d v → Q v H'
def lv (f : D → D → Option D) : Sto → D → D → Option D := fun S a b => f (view S a) (view S b)
def lv0 (f : D → D → Option D) : Sto → D → D → Option D := fun S a b => f (view0 S a) (view0 S b)
abbrev rP (K : PySem.W.Frag) (mg : Str → Option Value) (f : D → D → Option D) : R2 := rS K mg (lv f)
def eBin (f : Sto → D → D → Option D) (ma mb : ME) : ME := fun env S => (ma env S).bind fun a S => (mb env S).bind fun b S => ofO S (f S a b)
section
variable {X : Cx} {W : WX} {a b : Expr} {pos : Pos} {ma mb : ME}
theorem t_bin {f : Sto → D → D → Option D} {σ : L2.St} {H : Hp} {Q : VK} (h : tE X W (eBin f ma mb) σ H Q) : tOp (rS X.K X.mg f) (tE X W ma) (tE X W mb) σ H Q := by
  obtain ⟨env, S, μ, rl, o⟩ := h
  refine ⟨env, S, μ, rl, (Out.bind o).mono fun x H1 ⟨μ1, S1, da, st, rs, ra, o1⟩ => ?_⟩
  refine ⟨env, S1, μ1, ⟨rl.env.step st, rs⟩, (Out.bind o1).mono fun y H2 ⟨μ2, S2, db, st2, rs2, rb, o2⟩ => ?_⟩
  cases e : f S2 da db with
  | none => rw [e] at o2; exact o2.elim
  | some d =>
    rw [e] at o2
    exact ⟨μ2, S2, _, _, d, rs2, Rep.step st2 _ _ ra, rb, e, fun H' v sm r => o2 μ2 H' v (.of_sm sm) (rs2.sm sm) r⟩
theorem sE_bin {op : Operator} {f : Sto → D → D → Option D} (ho : OpR X (binaryOp op) (rS X.K X.mg f)) (ha : PE X a (tE X W ma)) (hb : PE X b (tE X W mb)) : PE X (.BinOp a op b pos) (tE X W (eBin f ma mb)) :=
  pe_to (pe_op ho ha hb) fun _ _ _ h => t_bin h
theorem sE_cmp {op : CmpOp} {f : Sto → D → D → Option D} (ho : OpR X (compareOp op) (rS X.K X.mg f)) (ha : PE X a (tE X W ma)) (hb : PE X b (tE X W mb)) (hm : behindInMarks op b = false) : PE X (.Compare a [op] [b] pos) (tE X W (eBin f ma mb)) :=
  pe_to (pe_cmpR ho ha hb hm) fun _ _ _ h => t_bin h
/-- a computation whose value is a bool, as a test -/
def tOf (m : ME) : MT := fun env S => (m env S).bind fun d S => match d with
  | .bool b => .ok b S
  | _ => .stuck
theorem t_of {m : ME} {σ : L2.St} {H : Hp} {Q : Bool → Hp → Prop} (h : tT X W (tOf m) σ H Q) : tTest (tE X W m) σ H Q := by
  obtain ⟨env, S, μ, rl, o⟩ := h
  refine ⟨env, S, μ, rl, (Out.bind o).mono fun x H1 ⟨μ1, S1, d, st, rs, r, o1⟩ => ?_⟩
  cases d with
  | bool b => unfold Rep at r; exact ⟨b, r, o1 μ1 H1 b .refl rs rfl⟩
  | _ => exact o1.elim
theorem sT_cmp {op : CmpOp} {f : Sto → D → D → Option D} (ho : OpR X (compareOp op) (rS X.K X.mg f)) (ha : PE X a (tE X W ma)) (hb : PE X b (tE X W mb)) (hm : behindInMarks op b = false) : PT X (.Compare a [op] [b] pos) (tT X W (tOf (eBin f ma mb))) :=
  pt_to (pt_cmpR ho ha hb hm) fun σ H Q h => by
    obtain h := t_of h
    obtain ⟨env, S, μ, rl, o⟩ := h
    exact t_bin ⟨env, S, μ, rl, o⟩
end
/-! #### ints -/
def oI (g : Int → Int → Int) : D → D → Option D
  | .int i, .int j => some (.int (g i j))
  | _, _ => none
def oIC (C : Int → Int → Bool) (g : Int → Int → Int) : D → D → Option D
  | .int i, .int j => if C i j then some (.int (g i j)) else none
  | _, _ => none
def oIB (g : Int → Int → Bool) : D → D → Option D
  | .int i, .int j => some (.bool (g i j))
  | _, _ => none
theorem RepW.int {K : PySem.W.Frag} {mg : Str → Option Value} {μ : Mu} {H : Hp} {i : Int} {v : V} (h : RepW K mg μ H (.int i) v) : v = .int i := by
  have h : Rep K mg μ H (.int i) v := h
  unfold Rep at h; exact h
theorem RepW.str {K : PySem.W.Frag} {mg : Str → Option Value} {μ : Mu} {H : Hp} {i : Str} {v : V} (h : RepW K mg μ H (.str i) v) : v = .str i := by
  have h : Rep K mg μ H (.str i) v := h
  unfold Rep at h; exact h
theorem RepW.tup {K : PySem.W.Frag} {mg : Str → Option Value} {μ : Mu} {H : Hp} {ds : List D} {v : V} (h : RepW K mg μ H (.tup ds) v) : ∃ a vs, v = .ref a ∧ Rd H a (.tup vs) ∧ RepAll K mg μ H ds vs ∧ a ∉ μ := h
section
variable {X : Cx}
theorem rep_int {K : PySem.W.Frag} {mg : Str → Option Value} {μ : Mu} {H : Hp} (i : Int) : Rep K mg μ H (.int i) (.int i) := by unfold Rep; rfl
theorem rep_bool {K : PySem.W.Frag} {mg : Str → Option Value} {μ : Mu} {H : Hp} (i : Bool) : Rep K mg μ H (.bool i) (.bl i) := by unfold Rep; rfl
theorem rep_str {K : PySem.W.Frag} {mg : Str → Option Value} {μ : Mu} {H : Hp} (i : Str) : Rep K mg μ H (.str i) (.str i) := by unfold Rep; rfl
theorem rep_none {K : PySem.W.Frag} {mg : Str → Option Value} {μ : Mu} {H : Hp} : Rep K mg μ H .none .non := by unfold Rep; rfl
theorem opr_imp {f : Value → Value → Sem Value} {r r' : R2} (h : OpR X f r) (i : ∀ x y H Q, r' x y H Q → r x y H Q) : OpR X f r' := fun pins s σ H x y v u Q I rx ry w => h pins s σ H x y v u Q I rx ry (i _ _ _ _ w)
/-- an operator over views -/
theorem op_lv {f : Value → Value → Sem Value} {g : D → D → Option D} {r : R2} (h : OpR X f r)
    (i : ∀ μ x y H Q a b d, RepW X.K X.mg μ H a x → RepW X.K X.mg μ H b y → g a b = some d → (∀ H' v, Sm H H' → Rep X.K X.mg μ H' d v → Q v H') → r x y H Q) : OpR X f (rP X.K X.mg g) :=
  opr_imp h fun x y H Q ⟨μ, S, a, b, d, rs, ra, rb, e, q⟩ => i μ x y H Q _ _ d (rs.view ra) (rs.view rb) e q
theorem op_lv0 {f : Value → Value → Sem Value} {g : D → D → Option D} {r : R2} (h : OpR X f r)
    (i : ∀ μ x y H Q a b d, RepV X.K X.mg μ H a x → RepV X.K X.mg μ H b y → g a b = some d → (∀ H' v, Sm H H' → Rep X.K X.mg μ H' d v → Q v H') → r x y H Q) : OpR X f (rS X.K X.mg (lv0 g)) :=
  opr_imp h fun x y H Q ⟨μ, S, a, b, d, rs, ra, rb, e, q⟩ => i μ x y H Q _ _ d (rs.view0 ra) (rs.view0 rb) e q
theorem opI_D {f : Value → Value → Sem Value} {g : Int → Int → Int} (h : OpR X f (rI0 fun i j => .int (g i j))) : OpR X f (rP X.K X.mg (oI g)) := op_lv h fun μ x y H Q a b d ra rb e q => by
  unfold oI at e
  split at e
  · cases e
    exact ⟨_, _, ra.int, rb.int, q H _ .rfl (rep_int _)⟩
  · cases e
theorem opIC_D {f : Value → Value → Sem Value} {C : Int → Int → Prop} {Cb : Int → Int → Bool} {g : Int → Int → Int} (hC : ∀ i j, Cb i j = true → C i j) (h : OpR X f (rI C fun i j => .int (g i j))) : OpR X f (rP X.K X.mg (oIC Cb g)) := op_lv h fun μ x y H Q a b d ra rb e q => by
  unfold oIC at e
  split at e
  · split at e
    · rename_i hc
      cases e
      exact ⟨_, _, ra.int, rb.int, hC _ _ hc, q H _ .rfl (rep_int _)⟩
    · cases e
  · cases e
theorem opIB_D {f : Value → Value → Sem Value} {g : Int → Int → Bool} (h : OpR X f (rI0 fun i j => .bl (g i j))) : OpR X f (rP X.K X.mg (oIB g)) := op_lv h fun μ x y H Q a b d ra rb e q => by
  unfold oIB at e
  split at e
  · cases e
    exact ⟨_, _, ra.int, rb.int, q H _ .rfl (rep_bool _)⟩
  · cases e
def cMul (i j : Int) : Bool := (decide (-(2 ^ 64) < i) && decide (i < 2 ^ 64)) || (decide (-(2 ^ 64) < j) && decide (j < 2 ^ 64))
def cDiv (_ j : Int) : Bool := decide (0 < j) && decide (j < 1073741824)
def cMod (_ j : Int) : Bool := decide (0 < j)
def cPow (i j : Int) : Bool := decide (0 ≤ j) && decide (j ≤ 1000000) && decide (i.natAbs < 2 ^ 64)
abbrev dSub := oI (fun i j => i - j)
abbrev dMulI := oIC cMul (fun i j => i * j)
abbrev dDiv := oIC cDiv (fun i j => i / j)
abbrev dMod := oIC cMod (fun i j => i % j)
abbrev dPow := oIC cPow (fun i j => i ^ j.toNat)
abbrev dLt := oIB (fun i j => decide (i < j))
abbrev dLe := oIB (fun i j => decide (i ≤ j))
abbrev dGt := oIB (fun i j => decide (j < i))
abbrev dGe := oIB (fun i j => decide (j ≤ i))
theorem o_sub : OpR X (binaryOp .Sub) (rP X.K X.mg dSub) := opI_D op_sub
theorem o_mulI : OpR X (binaryOp .Mult) (rP X.K X.mg dMulI) := opIC_D (fun i j h => by
  simp only [cMul, Bool.or_eq_true, Bool.and_eq_true, decide_eq_true_eq] at h; exact h) op_mul
theorem o_div : OpR X (binaryOp .FloorDiv) (rP X.K X.mg dDiv) := opIC_D (fun i j h => by
  simp only [cDiv, Bool.and_eq_true, decide_eq_true_eq] at h; exact h) op_fdiv
theorem o_mod : OpR X (binaryOp .Mod) (rP X.K X.mg dMod) := opIC_D (C := fun _ j => 0 < j) (fun i j h => by
  simp only [cMod, decide_eq_true_eq] at h; exact h) op_mod
theorem o_pow : OpR X (binaryOp .Pow) (rP X.K X.mg dPow) := opIC_D (fun i j h => by
  simp only [cPow, Bool.and_eq_true, decide_eq_true_eq] at h; exact ⟨h.1.1, h.1.2, h.2⟩) op_pow
theorem o_lt : OpR X (compareOp .Lt) (rP X.K X.mg dLt) := opIB_D op_lt
theorem o_le : OpR X (compareOp .LtE) (rP X.K X.mg dLe) := opIB_D op_le
theorem o_gt : OpR X (compareOp .Gt) (rP X.K X.mg dGt) := opIB_D op_gt
theorem o_ge : OpR X (compareOp .GtE) (rP X.K X.mg dGe) := opIB_D op_ge
/-! #### + -/
def dAdd : D → D → Option D
  | .int i, .int j => some (.int (i + j))
  | .str x, .str y => if x.length + y.length ≤ 1000000 then some (.str (x ++ y)) else none
  | .tup xs, .tup ys => if xs.length + ys.length ≤ 1000000 then some (.tup (xs ++ ys)) else none
  | .lst xs, .lst ys => if xs.length + ys.length ≤ 1000000 then some (.lst (xs ++ ys)) else none
  | .tpn xs, .tup ys => if xs.length + ys.length ≤ 1000000 then some (if xs = [] then .tup ys else if ys = [] then .tpn xs else .tup (xs ++ ys)) else none
  | .tup xs, .tpn ys => if xs.length + ys.length ≤ 1000000 then some (if xs = [] then .tpn ys else .tup (xs ++ ys)) else none
  | .tpn xs, .tpn ys => if xs.length + ys.length ≤ 1000000 then some (if xs = [] then .tpn ys else if ys = [] then .tpn xs else .tup (xs ++ ys)) else none
  | _, _ => none
theorem line_big {n : Nat} (h : n ≤ 1000000) : n ≤ sizeLine := by rw [sizeLine_eq]; omega
end
end DL

set_option Elab.async false
set_option linter.all false
set_option maxRecDepth 100000
/-! DL3: + , ==, in, truth, subscripts, displays. -/
namespace DL
open PySem PySem.Spec PyProof.Rows L2
theorem rep_new_tup {K : PySem.W.Frag} {mg : Str → Option Value} {μ : Mu} {H : Hp} {S : Sto} (rs : RelS K mg μ H S) {p : Addr} (hp : H p = none) {ds : List D} {vs : List V} (l : RepAll K mg μ H ds vs) :
    Rep K mg μ (upd H p (.tup vs)) (.tup ds) (.ref p) := by
  unfold Rep
  exact ⟨p, vs, rfl, upd_same, rs.fresh hp, RepAll.step (.of_sm (.upd hp)) _ _ l⟩
theorem rep_new_lst {K : PySem.W.Frag} {mg : Str → Option Value} {μ : Mu} {H : Hp} {S : Sto} (rs : RelS K mg μ H S) {p : Addr} (hp : H p = none) {ds : List D} {vs : List V} (l : RepAll K mg μ H ds vs) :
    Rep K mg μ (upd H p (.lst vs)) (.lst ds) (.ref p) := by
  unfold Rep
  exact ⟨p, vs, rfl, upd_same, rs.fresh hp, RepAll.step (.of_sm (.upd hp)) _ _ l⟩

section
variable {X : Cx}
theorem RepV.int {K : PySem.W.Frag} {mg : Str → Option Value} {μ : Mu} {H : Hp} {i : Int} {v : V} (h : RepV K mg μ H (.int i) v) : v = .int i := RepW.int h
theorem RepV.str {K : PySem.W.Frag} {mg : Str → Option Value} {μ : Mu} {H : Hp} {i : Str} {v : V} (h : RepV K mg μ H (.str i) v) : v = .str i := RepW.str h
theorem cat_core {pins : List (Addr × Obj)} {s : Shared} {σ : L2.St} {H : Hp} {x y : V} {v u : Value} {Q : VK} {μ : Mu} {S : Sto} {a b d : D} {xs ys : List D} (I : L2.Inv X pins σ H s) (rx : L2.RelV x v) (ry : L2.RelV y u) (rs : RelS X.K X.mg μ H S)
    (ra : RepV X.K X.mg μ H a x) (rb : RepV X.K X.mg μ H b y) (va : vt a = .tup xs) (vb : vt b = .tup ys) (hz : xs.length + ys.length ≤ 1000000)
    (h1 : xs = [] → d = b) (h2 : xs ≠ [] → ys = [] → d = a) (h3 : xs ≠ [] → ys ≠ [] → d = .tup (xs ++ ys)) (q : ∀ H' v, Sm H H' → Rep X.K X.mg μ H' d v → Q v H') :
    wpAny (model X.prog X.w) X.A (binaryOp .Add v u) (EP X pins σ Q) X.xe s := by
  have wa := ra.vt
  have wb := rb.vt
  rw [va] at wa
  rw [vb] at wb
  have ra' : Rep X.K X.mg μ H a x := by
    cases a with
    | tup z => exact ra
    | tpn z => exact ra
    | _ => cases va
  have rb' : Rep X.K X.mg μ H b y := by
    cases b with
    | tup z => exact rb
    | tpn z => exact rb
    | _ => cases vb
  obtain ⟨p, vs, rfl, ha, la, sa⟩ := wa
  obtain ⟨p', us, rfl, hb, lb, sb⟩ := wb
  refine op_catA pins s σ H _ _ v u Q I rx ry ⟨p, p', vs, us, rfl, rfl, .inl ha, .inl hb, ?_, fun h => q H _ .rfl ?_, fun h0 h => q H _ .rfl ?_, fun h0 h p hp => q _ _ (.upd hp) ?_⟩
  · rw [← la.length, ← lb.length]; exact line_big hz
  · subst h
    have : xs = [] := List.length_eq_zero_iff.mp la.length
    rw [h1 this]; exact rb'
  · subst h
    have e2 : ys = [] := List.length_eq_zero_iff.mp lb.length
    have e1 : xs ≠ [] := fun z => h0 (by subst z; exact List.length_eq_zero_iff.mp la.length.symm)
    rw [h2 e1 e2]; exact ra'
  · have e1 : xs ≠ [] := fun z => h0 (by subst z; exact List.length_eq_zero_iff.mp la.length.symm)
    have e2 : ys ≠ [] := fun z => h (by subst z; exact List.length_eq_zero_iff.mp lb.length.symm)
    rw [h3 e1 e2]
    exact rep_new_tup rs hp (la.append lb)
theorem o_add : OpR X (binaryOp .Add) (rS X.K X.mg (lv0 dAdd)) := by
  intro pins s σ H x y v u Q I rx ry ⟨μ, S, a, b, d, rs, ra, rb, e, q⟩
  have ra := rs.view0 ra
  have rb := rs.view0 rb
  simp only [lv0] at e
  generalize view0 S a = a at *
  generalize view0 S b = b at *
  unfold dAdd at e
  split at e
  · cases e
    exact op_add pins s σ H x y v u Q I rx ry ⟨_, _, ra.int, rb.int, q H _ .rfl (rep_int _)⟩
  · split at e
    · rename_i hz
      cases e
      exact op_add_str pins s σ H x y v u Q I rx ry ⟨_, _, ra.str, rb.str, line_big hz, q H _ .rfl (rep_str _)⟩
    · cases e
  · split at e
    · rename_i xs ys hz
      cases e
      exact cat_core I rx ry rs ra rb rfl rfl hz (fun h => by subst h; rfl) (fun _ h => by subst h; rw [List.append_nil]) (fun _ _ => rfl) q
    · cases e
  · split at e
    · rename_i xs ys hz
      cases e
      obtain ⟨a, vs, ea, ha, la⟩ := ra
      obtain ⟨b, us, eb, hb, lb⟩ := rb
      refine op_cat pins s σ H x y v u Q I rx ry ⟨a, b, vs, us, ea, eb, ha, hb, by rw [← la.length, ← lb.length]; exact line_big hz, fun p hp => q _ _ (.upd hp) ?_⟩
      exact rep_new_lst rs hp (la.append lb)
    · cases e
  · split at e
    · rename_i xs ys hz
      cases e
      exact cat_core I rx ry rs ra rb rfl rfl hz (fun h => by rw [if_pos h]) (fun h h' => by rw [if_neg h, if_pos h']) (fun h h' => by rw [if_neg h, if_neg h']) q
    · cases e
  · split at e
    · rename_i xs ys hz
      cases e
      exact cat_core I rx ry rs ra rb rfl rfl hz (fun h => by rw [if_pos h]) (fun h h' => by rw [if_neg h, h', List.append_nil]) (fun h h' => by rw [if_neg h]) q
    · cases e
  · split at e
    · rename_i xs ys hz
      cases e
      exact cat_core I rx ry rs ra rb rfl rfl hz (fun h => by rw [if_pos h]) (fun h h' => by rw [if_neg h, if_pos h']) (fun h h' => by rw [if_neg h, if_neg h']) q
    · cases e
  · cases e
end
/-! ### data, == -/
def dok : Nat → D → Bool
  | _, .none => true
  | _, .bool _ => true
  | _, .int _ => true
  | _, .str x => PyData.strOk x
  | n + 1, .tup xs => xs.all (dok n)
  | n + 1, .lst xs => xs.all (dok n)
  | n + 1, .tpn xs => xs.all (dok n)
  | _, _ => false
mutual
def pdF : D → PyData
  | .none => .none
  | .bool b => .bool b
  | .int i => .int i
  | .str x => .str x
  | .tup xs => .tuple (pdFs xs)
  | .lst xs => .list (pdFs xs)
  | .tpn xs => .tuple (pdFs xs)
  | .ro _ => .none
  | .ty _ => .none
  | .loc _ => .none
  | .glo _ => .none
  | .adr _ => .none
  | .clo _ _ _ _ => .none
def pdFs : List D → List PyData
  | [] => []
  | d :: ds => pdF d :: pdFs ds
end
theorem pdFs_map : ∀ ds : List D, pdFs ds = ds.map pdF
  | [] => rfl
  | d :: ds => by unfold pdFs; rw [pdFs_map ds]; rfl
theorem lay_all : ∀ (ds : List D) (n : Nat), (∀ d ∈ ds, (pdF d).canLay0 = true ∧ (pdF d).depth ≤ n) → PyData.canLayAll0 (pdFs ds) = true ∧ PyData.depthAll (pdFs ds) ≤ n
  | [], n, _ => ⟨by unfold pdFs PyData.canLayAll0; rfl, by unfold pdFs PyData.depthAll; omega⟩
  | d :: ds, n, h => by
    obtain ⟨a, b⟩ := h d List.mem_cons_self
    obtain ⟨c, e⟩ := lay_all ds n fun x hx => h x (List.mem_cons_of_mem _ hx)
    unfold pdFs PyData.canLayAll0 PyData.depthAll
    exact ⟨by rw [a, c]; rfl, by omega⟩
theorem dok_lay : ∀ (n : Nat) (d : D), dok n d = true → (pdF d).canLay0 = true ∧ (pdF d).depth ≤ n
  | n, .none, _ => by unfold pdF PyData.canLay0 PyData.depth; exact ⟨rfl, Nat.zero_le _⟩
  | n, .bool _, _ => by unfold pdF PyData.canLay0 PyData.depth; exact ⟨rfl, Nat.zero_le _⟩
  | n, .int _, _ => by unfold pdF PyData.canLay0 PyData.depth; exact ⟨rfl, Nat.zero_le _⟩
  | n, .str x, h => by
    have h : PyData.strOk x = true := by cases n <;> exact h
    unfold pdF PyData.canLay0 PyData.depth; exact ⟨h, Nat.zero_le _⟩
  | 0, .tup _, h => by cases h
  | 0, .lst _, h => by cases h
  | 0, .tpn _, h => by cases h
  | n + 1, .tpn xs, h => by
    have h : xs.all (dok n) = true := h
    have q := lay_all xs n fun d hd => dok_lay n d (List.all_eq_true.mp h d hd)
    unfold pdF PyData.canLay0 PyData.depth
    exact ⟨q.1, by omega⟩
  | n + 1, .tup xs, h => by
    have h : xs.all (dok n) = true := h
    have q := lay_all xs n fun d hd => dok_lay n d (List.all_eq_true.mp h d hd)
    unfold pdF PyData.canLay0 PyData.depth
    exact ⟨q.1, by omega⟩
  | n + 1, .lst xs, h => by
    have h : xs.all (dok n) = true := h
    have q := lay_all xs n fun d hd => dok_lay n d (List.all_eq_true.mp h d hd)
    unfold pdF PyData.canLay0 PyData.depth
    exact ⟨q.1, by omega⟩
  | n, .ro _, h => by cases n <;> cases h
  | n, .ty _, h => by cases n <;> cases h
  | n, .loc _, h => by cases n <;> cases h
  | n, .glo _, h => by cases n <;> cases h
  | n, .adr _, h => by cases n <;> cases h
  | n, .clo _ _ _ _, h => by cases n <;> cases h
theorem dok_shaped {d : D} (h : dok 60 d = true) : SeqAt.shaped (pdF d) = true := by
  obtain ⟨a, b⟩ := dok_lay 60 d h
  unfold SeqAt.shaped
  rw [a, Bool.true_and]
  exact decide_eq_true (by omega)
section
variable {K : PySem.W.Frag} {mg : Str → Option Value} {μ : Mu} {H : Hp}
mutual
theorem dp_of : ∀ (n : Nat) (d : D) (v : V), dok n d = true → RepW K mg μ H d v → Dp K H v (pdF d)
  | n, .none, v, _, r => by
    have r : Rep K mg μ H .none v := r
    unfold Rep at r; subst r; unfold pdF; exact .non
  | n, .bool _, v, _, r => by
    have r : Rep K mg μ H (.bool _) v := r
    unfold Rep at r; subst r; unfold pdF; exact .bl _
  | n, .int _, v, _, r => by rw [r.int]; unfold pdF; exact .int _
  | n, .str _, v, _, r => by rw [r.str]; unfold pdF; exact .str _
  | 0, .tup _, _, h, _ => by cases h
  | 0, .lst _, _, h, _ => by cases h
  | n + 1, .tup xs, v, h, r => by
    obtain ⟨a, vs, e, h1, h2, _⟩ := r.tup
    subst e; unfold pdF
    exact .tup (.inl h1) (dps_of n xs vs h h2)
  | 0, .tpn _, _, h, _ => by cases h
  | n + 1, .tpn xs, v, h, r => by
    have r : Rep K mg μ H (.tpn xs) v := r
    unfold Rep at r
    obtain ⟨a, vs, o, e, ⟨h1, _⟩, nn, h2⟩ := r
    subst e; unfold pdF
    exact .tup (.inl (.inr ⟨o, h1⟩)) (dps_of n xs vs h h2)
  | n + 1, .lst xs, v, h, r => by
    obtain ⟨a, vs, e, h1, h2⟩ := r
    subst e; unfold pdF
    exact .lst (.of h1) (dps_of n xs vs h h2)
  | n, .ro _, _, h, _ => by cases n <;> cases h
  | n, .ty _, _, h, _ => by cases n <;> cases h
  | n, .loc _, _, h, _ => by cases n <;> cases h
  | n, .glo _, _, h, _ => by cases n <;> cases h
  | n, .adr _, _, h, _ => by cases n <;> cases h
  | n, .clo _ _ _ _, _, h, _ => by cases n <;> cases h
theorem dps_of : ∀ (n : Nat) (ds : List D) (vs : List V), ds.all (dok n) = true → RepAll K mg μ H ds vs → DpAll K H vs (pdFs ds)
  | n, [], vs, _, r => by unfold RepAll at r; subst r; unfold pdFs; exact .nil
  | n, d :: ds, vs, h, r => by
    unfold RepAll at r
    obtain ⟨v, q, rfl, h1, h2⟩ := r
    rw [List.all_cons, Bool.and_eq_true] at h
    unfold pdFs
    exact .cons (dp_of n d v h.1 h1.w) (dps_of n ds q h.2 h2)
end
end
/-- == -/
def peq (a b : D) : Bool := PyData.eqv (pdF a) (pdF b)
def dEq : D → D → Option D := fun a b => if dok 60 a && dok 60 b then some (.bool (peq a b)) else none
def dNe : D → D → Option D := fun a b => if dok 60 a && dok 60 b then some (.bool (!peq a b)) else none
section
variable {X : Cx}
theorem o_eq (hu : X.A.units + 64 < cLine) : OpR X (compareOp .Eq) (rP X.K X.mg dEq) := op_lv (op_eqD hu) fun μ x y H Q a b d ra rb e q => by
  unfold dEq at e
  split at e
  · rename_i h
    cases e
    rw [Bool.and_eq_true] at h
    exact ⟨_, _, dp_of 60 a x h.1 ra, dp_of 60 b y h.2 rb, dok_shaped h.1, dok_shaped h.2, q H _ .rfl (rep_bool _)⟩
  · cases e
theorem o_ne (hu : X.A.units + 64 < cLine) : OpR X (compareOp .NotEq) (rP X.K X.mg dNe) := op_lv (op_neD hu) fun μ x y H Q a b d ra rb e q => by
  unfold dNe at e
  split at e
  · rename_i h
    cases e
    rw [Bool.and_eq_true] at h
    exact ⟨_, _, dp_of 60 a x h.1 ra, dp_of 60 b y h.2 rb, dok_shaped h.1, dok_shaped h.2, q H _ .rfl (rep_bool _)⟩
  · cases e
/-- is None -/
def isN : D → Bool
  | .none => true
  | _ => false
def dIsN : D → D → Option D
  | a, .none => some (.bool (isN a))
  | _, _ => none
def dIsntN : D → D → Option D
  | a, .none => some (.bool (!isN a))
  | _, _ => none
theorem repW_isN {K : PySem.W.Frag} {mg : Str → Option Value} {μ : Mu} {H : Hp} {a : D} {x : V} (r : RepW K mg μ H a x) : decide (x = V.non) = isN a := by
  cases a with
  | none => have r : Rep K mg μ H .none x := r; unfold Rep at r; subst r; rfl
  | bool b => have r : Rep K mg μ H (.bool b) x := r; unfold Rep at r; subst r; rfl
  | int i => rw [r.int]; rfl
  | str i => rw [r.str]; rfl
  | ty n => have r : Rep K mg μ H (.ty n) x := r; unfold Rep at r; subst r; rfl
  | tup ds => obtain ⟨a, vs, e, _⟩ := r.tup; subst e; rfl
  | lst ds => obtain ⟨a, vs, e, _⟩ := r; subst e; rfl
  | ro ds => have r : Rep K mg μ H (.ro ds) x := r; unfold Rep at r; obtain ⟨a, vs, e, _⟩ := r; subst e; rfl
  | loc l => have r : Rep K mg μ H (.loc l) x := r; unfold Rep at r; obtain ⟨a, e, _⟩ := r; subst e; rfl
  | glo l => have r : Rep K mg μ H (.glo l) x := r; unfold Rep at r; obtain ⟨a, e, _⟩ := r; subst e; rfl
  | adr l => have r : Rep K mg μ H (.adr l) x := r; unfold Rep at r; subst r; rfl
  | clo k b q F => have r : Rep K mg μ H (.clo k b q F) x := r; unfold Rep at r; obtain ⟨a, _, _, _, _, e, _⟩ := r; subst e; rfl
  | tpn ds => have r : Rep K mg μ H (.tpn ds) x := r; unfold Rep at r; obtain ⟨a, vs, o, e, _⟩ := r; subst e; rfl
theorem o_is : OpR X (compareOp .Is) (rP X.K X.mg dIsN) := op_lv op_isN fun μ x y H Q a b d ra rb e q => by
  unfold dIsN at e
  split at e
  · cases e
    have rb : Rep X.K X.mg μ H .none y := rb
    unfold Rep at rb
    refine ⟨rb, ?_⟩
    rw [repW_isN ra]
    exact q H _ .rfl (rep_bool _)
  · cases e
theorem o_isnt : OpR X (compareOp .IsNot) (rP X.K X.mg dIsntN) := op_lv op_notN fun μ x y H Q a b d ra rb e q => by
  unfold dIsntN at e
  split at e
  · cases e
    have rb : Rep X.K X.mg μ H .none y := rb
    unfold Rep at rb
    refine ⟨rb, ?_⟩
    rw [repW_isN ra]
    exact q H _ .rfl (rep_bool _)
  · cases e
end
/-! ### keys, in -/
def keyOf : D → Option Key
  | .int i => some (.inl i)
  | .str x => some (.inr x)
  | _ => none
def keysOf : List D → Option (List Key)
  | [] => some []
  | d :: ds => match keyOf d, keysOf ds with
    | some k, some ks => some (k :: ks)
    | _, _ => none
def keyTOf : D → Option (List Key)
  | .tup ds => keysOf ds
  | _ => none
def isKey (d : D) : Bool := (keyOf d).isSome || (keyTOf d).isSome
theorem keyOf_some {d : D} {k : Key} (h : keyOf d = some k) : d = keyD k := by
  cases d <;> simp [keyOf] at h <;> subst h <;> rfl
theorem keysOf_some : ∀ {ds : List D} {ks : List Key}, keysOf ds = some ks → ds = ks.map keyD
  | [], ks, h => by simp [keysOf] at h; subst h; rfl
  | d :: ds, ks, h => by
    unfold keysOf at h
    split at h
    · rename_i k ks' h1 h2
      cases h
      rw [keyOf_some h1, keysOf_some h2]; rfl
    · cases h
theorem keyTOf_some {d : D} {k : List Key} (h : keyTOf d = some k) : d = keyTD k := by
  cases d <;> simp [keyTOf] at h
  rw [keysOf_some h]; rfl
theorem keyOf_keyD (k : Key) : keyOf (keyD k) = some k := by cases k <;> rfl
theorem keysOf_map : ∀ ks : List Key, keysOf (ks.map keyD) = some ks
  | [] => rfl
  | k :: ks => by
    show (match keyOf (keyD k), keysOf (ks.map keyD) with | some k, some ks => some (k :: ks) | _, _ => none) = _
    rw [keyOf_keyD, keysOf_map ks]
theorem keyTOf_keyTD (k : List Key) : keyTOf (keyTD k) = some k := keysOf_map k
theorem keyD_inj {a b : Key} (h : keyD a = keyD b) : a = b := by
  have := congrArg keyOf h
  rw [keyOf_keyD, keyOf_keyD] at this
  exact Option.some.inj this
theorem keyTD_inj {a b : List Key} (h : keyTD a = keyTD b) : a = b := by
  have := congrArg keyTOf h
  rw [keyTOf_keyTD, keyTOf_keyTD] at this
  exact Option.some.inj this
end DL

set_option Elab.async false
set_option linter.all false
set_option maxRecDepth 100000
/-! DL4: dicts looked up, in, subscripts, slices, truth, displays, names. -/
namespace DL
open PySem PySem.Spec PyProof.Rows L2
/-! ### look-ups -/
def keyOk (t : Bool) (k : D) : Bool := if t then (keyTOf k).isSome else (keyOf k).isSome
/-- two keys alike -/
def keq : Bool → D → D → Bool
  | false, a, b => decide (keyOf a = keyOf b)
  | true, a, b => decide (keyTOf a = keyTOf b)
def dLook (t : Bool) (kvs : List (D × D)) (k : D) : Option D := (kvs.find? fun p => keq t p.1 k).map (·.2)
section
variable {K : PySem.W.Frag} {mg : Str → Option Value} {μ : Mu} {H : Hp}
theorem rep_key {k : Key} {y : V} (h : Rep K mg μ H (keyD k) y) : y = kV k := by
  cases k <;> (unfold keyD Rep at h; exact h)
theorem reps_key : ∀ {ks : List Key} {ys : List V}, RepAll K mg μ H (ks.map keyD) ys → ys = ks.map kV
  | [], ys, h => by
    have h : RepAll K mg μ H [] ys := h
    unfold RepAll at h; exact h
  | k :: ks, ys, h => by
    have h : RepAll K mg μ H (keyD k :: ks.map keyD) ys := h
    unfold RepAll at h
    obtain ⟨v, r, rfl, h1, h2⟩ := h
    rw [rep_key h1, reps_key h2]; rfl
theorem rep_keyT {k : List Key} {y : V} (h : Rep K mg μ H (keyTD k) y) : ∃ b, y = .ref b ∧ H b = some (.tup (k.map kV)) := by
  unfold keyTD Rep at h
  obtain ⟨a, vs, e, h1, _, h2⟩ := h
  rw [reps_key h2] at h1
  exact ⟨a, e, h1⟩
/-- what is looked up in rows and in values alike -/
theorem look_zip {κ : Type} [DecidableEq κ] {f : κ → D} {g : D → D → Bool} (hg : ∀ a b, g (f a) (f b) = decide (a = b)) (k : κ) : ∀ {kvs : List (D × D)} {ks : List κ} {vs : List V}, kvs.map (·.1) = ks.map f → RepAll K mg μ H (kvs.map (·.2)) vs →
    match (kvs.find? fun p => g p.1 (f k)).map (·.2) with
    | some d => ∃ v, valV (ks.zip vs) k = some v ∧ Rep K mg μ H d v
    | none => valV (ks.zip vs) k = none
  | [], ks, vs, h, _ => by
    have : ks = [] := by cases ks with | nil => rfl | cons a b => cases h
    subst this; rfl
  | (a, d) :: kvs, [], vs, h, _ => by cases h
  | (a, d) :: kvs, k' :: ks, vs, h, r => by
    have r : RepAll K mg μ H (d :: kvs.map (·.2)) vs := r
    unfold RepAll at r
    obtain ⟨v, q, rfl, r1, r2⟩ := r
    injection h with h1 h2
    have h1 : a = f k' := h1
    subst h1
    have ih := look_zip hg k h2 r2
    rw [List.find?_cons]
    by_cases e : k' = k
    · subst e
      have : g (f k') (f k') = true := by rw [hg]; simp
      simp only [this]
      exact ⟨v, by rw [List.zip_cons_cons]; exact valV_pos rfl, r1⟩
    · have : g (f k') (f k) = false := by rw [hg]; simp [e]
      simp only [this]
      rw [List.zip_cons_cons]
      rw [valV_neg e]
      exact ih
theorem keq_f (a b : Key) : keq false (keyD a) (keyD b) = decide (a = b) := by
  show decide (keyOf (keyD a) = keyOf (keyD b)) = _
  rw [keyOf_keyD, keyOf_keyD]
  by_cases h : a = b
  · subst h; simp
  · simp [h]
theorem keq_t (a b : List Key) : keq true (keyTD a) (keyTD b) = decide (a = b) := by
  show decide (keyTOf (keyTD a) = keyTOf (keyTD b)) = _
  rw [keyTOf_keyTD, keyTOf_keyTD]
  by_cases h : a = b
  · subst h; simp
  · simp [h]
theorem key_f {k : D} (h : keyOk false k = true) : ∃ kk, k = keyD kk := by
  unfold keyOk at h
  obtain ⟨kk, e⟩ := Option.isSome_iff_exists.mp h
  exact ⟨kk, keyOf_some e⟩
theorem key_t {k : D} (h : keyOk true k = true) : ∃ kk, k = keyTD kk := by
  unfold keyOk at h
  obtain ⟨kk, e⟩ := Option.isSome_iff_exists.mp h
  exact ⟨kk, keyTOf_some e⟩
/-- what a dict holds, locked or not -/
def dctOf : Option O → Option (Bool × List (D × D))
  | some (.dct t kvs) => some (t, kvs)
  | some (.fdc t kvs) => some (t, kvs)
  | _ => none
theorem dctOf_some {x : Option O} {t : Bool} {kvs : List (D × D)} (h : dctOf x = some (t, kvs)) : x = some (.dct t kvs) ∨ x = some (.fdc t kvs) := by
  unfold dctOf at h
  split at h
  · cases h; exact .inl rfl
  · cases h; exact .inr rfl
  · cases h
theorem look_ok {t : Bool} {kvs : List (D × D)} {a : Addr} {k : D} {y : V} (h : RepO K mg μ H (.dct t kvs) a) (hk : keyOk t k = true) (r : Rep K mg μ H k y) :
    ∃ o, DGet H a y o ∧ match dLook t kvs k with
      | some d => ∃ v, o = some v ∧ Rep K mg μ H d v
      | none => o = none := by
  cases t with
  | false =>
    obtain ⟨vs, ks, ⟨e, q⟩, rs⟩ := h
    obtain ⟨kk, rfl⟩ := key_f hk
    rw [rep_key r]
    exact ⟨_, .k e, look_zip keq_f kk q rs⟩
  | true =>
    obtain ⟨vs, ks, ⟨e, q⟩, rs⟩ := h
    obtain ⟨kk, rfl⟩ := key_t hk
    obtain ⟨b, rfl, hb⟩ := rep_keyT r
    exact ⟨_, .t e hb, look_zip keq_t kk q rs⟩
theorem look_okF {t : Bool} {kvs : List (D × D)} {a : Addr} {k : D} {y : V} (h : RepO K mg μ H (.fdc t kvs) a) (hk : keyOk t k = true) (r : Rep K mg μ H k y) :
    ∃ o, DGet H a y o ∧ match dLook t kvs k with
      | some d => ∃ v, o = some v ∧ Rep K mg μ H d v
      | none => o = none := by
  cases t with
  | false =>
    obtain ⟨vs, ks, ⟨⟨od, e⟩, q⟩, rs⟩ := h
    obtain ⟨kk, rfl⟩ := key_f hk
    rw [rep_key r]
    exact ⟨_, .inl ⟨_, kk, .inr ⟨od, e⟩, rfl, rfl⟩, look_zip keq_f kk q rs⟩
  | true =>
    obtain ⟨vs, ks, ⟨⟨od, e⟩, q⟩, rs⟩ := h
    obtain ⟨kk, rfl⟩ := key_t hk
    obtain ⟨b, rfl, hb⟩ := rep_keyT r
    exact ⟨_, .inr ⟨_, kk, b, .inr ⟨od, e⟩, rfl, hb, rfl⟩, look_zip keq_t kk q rs⟩
theorem look_okO {S : Sto} {l : Nat} {t : Bool} {kvs : List (D × D)} {a : Addr} {k : D} {y : V} (rs : RelS K mg μ H S) (hμ : μ.l[l]? = some a) (es : dctOf S[l]? = some (t, kvs)) (hk : keyOk t k = true) (r : Rep K mg μ H k y) :
    ∃ o, DGet H a y o ∧ match dLook t kvs k with
      | some d => ∃ v, o = some v ∧ Rep K mg μ H d v
      | none => o = none := by
  rcases dctOf_some es with es | es
  · obtain ⟨ad', h1, ro⟩ := rs.at_ l _ es
    rw [hμ] at h1; cases h1
    exact look_ok ro hk r
  · obtain ⟨ad', h1, ro⟩ := rs.at_ l _ es
    rw [hμ] at h1; cases h1
    exact look_okF ro hk r
end
/-! ### in -/
/-- whether a is in b -/
def dIn (S : Sto) (a b : D) : Option Bool := match view S b with
  | .lst xs => if dok 60 a && dok 60 (.lst xs) then some (xs.any fun z => peq z a) else none
  | .tup xs => if dok 60 a && dok 60 (.tup xs) then some (xs.any fun z => peq z a) else match view0 S a with
    | .lst ys => if dok 60 (.lst ys) && dok 60 (.tup xs) then some (xs.any fun z => peq z (.lst ys)) else none
    | _ => none
  | .str z => match a with
    | .str x => if x.cps.size = 1 then some (decide (x.cps.getD 0 0 ∈ z.cps.toList)) else none
    | _ => none
  | .loc l => match dctOf S[l]? with
    | some (t, kvs) => if keyOk t a then some (dLook t kvs a).isSome else none
    | none => none
  | _ => none
def fIn : Sto → D → D → Option D := fun S a b => (dIn S a b).map .bool
def fNotIn : Sto → D → D → Option D := fun S a b => (dIn S a b).map fun c => .bool (!c)
theorem one_sign {x : Str} (h : x.cps.size = 1) : x = ⟨#[x.cps.getD 0 0]⟩ := by
  obtain ⟨⟨l⟩⟩ := x
  match l, h with
  | [c], _ => rfl
theorem any_pd (a : D) : ∀ xs : List D, ((pdFs xs).any fun z => PyData.eqv z (pdF a)) = xs.any fun z => peq z a
  | [] => by unfold pdFs; rfl
  | x :: xs => by unfold pdFs; rw [List.any_cons, List.any_cons, any_pd a xs]; rfl
section
variable {X : Cx}
theorem in_core (hu : X.A.units + 65 < cLine) {pins : List (Addr × Obj)} {s : Shared} {σ : L2.St} {H : Hp} {x y : V} {v u : Value} {Q : Bool → Hp → Prop} {μ : Mu} {S : Sto} {a b : D} {c : Bool} (I : L2.Inv X pins σ H s) (rx : L2.RelV x v) (ry : L2.RelV y u)
    (rs : RelS X.K X.mg μ H S) (ra : Rep X.K X.mg μ H a x) (rb : Rep X.K X.mg μ H b y) (e : dIn S a b = some c) (q : Q c H) (neg : Bool) :
    wpAny (model X.prog X.w) X.A (compareOp (if neg then .NotIn else .In) v u) (fun r s' => ∃ H', L2.Inv X pins σ H' s' ∧ r = .bool (if neg then !c else c) ∧ Q c H') X.xe s := by
  unfold dIn at e
  have rw0 := rs.view rb
  split at e
  · rename_i xs ev
    rw [ev] at rw0
    split at e
    · rename_i h
      rw [Bool.and_eq_true] at h
      cases e
      have dy := dp_of 60 _ y h.2 rw0
      have dx := dp_of 60 a x h.1 ra.w
      obtain ⟨as, r1⟩ := Dp.reads I _ x v dx rx
      obtain ⟨bs, r2⟩ := Dp.reads I _ y u dy ry
      unfold pdF at r2
      have hl := (dok_lay 60 _ h.2).1
      unfold pdF at hl
      have sd := dok_shaped h.1
      cases neg
      · exact SeqAt.in_list_reads r2 r1 hl (SeqAt.canLay_of_shaped sd) (room_in_shaped sd hu) ⟨H, I, by rw [any_pd]; rfl, q⟩
      · exact SeqAt.notIn_list_reads r2 r1 hl (SeqAt.canLay_of_shaped sd) (room_in_shaped sd hu) ⟨H, I, by rw [any_pd]; rfl, q⟩
    · cases e
  · rename_i xs ev
    rw [ev] at rw0
    split at e
    · rename_i h
      rw [Bool.and_eq_true] at h
      cases e
      have dy := dp_of 60 _ y h.2 rw0
      have dx := dp_of 60 a x h.1 ra.w
      obtain ⟨as, r1⟩ := Dp.reads I _ x v dx rx
      obtain ⟨bs, r2⟩ := Dp.reads I _ y u dy ry
      unfold pdF at r2
      have hl := (dok_lay 60 _ h.2).1
      unfold pdF at hl
      have sd := dok_shaped h.1
      cases neg
      · exact SeqAt.in_tuple_reads r2 r1 hl (SeqAt.canLay_of_shaped sd) (room_in_shaped sd hu) ⟨H, I, by rw [any_pd]; rfl, q⟩
      · exact SeqAt.notIn_tuple_reads r2 r1 hl (SeqAt.canLay_of_shaped sd) (room_in_shaped sd hu) ⟨H, I, by rw [any_pd]; rfl, q⟩
    · have ra0 := rs.view0 ra
      split at e
      · rename_i ys eva
        rw [eva] at ra0
        split at e
        · rename_i h
          rw [Bool.and_eq_true] at h
          cases e
          have dy := dp_of 60 _ y h.2 rw0
          have dx := dp_of 60 (.lst ys) x h.1 (RepV.vt ra0)
          obtain ⟨as, r1⟩ := Dp.reads I _ x v dx rx
          obtain ⟨bs, r2⟩ := Dp.reads I _ y u dy ry
          unfold pdF at r2
          have hl := (dok_lay 60 _ h.2).1
          unfold pdF at hl
          have sd := dok_shaped h.1
          cases neg
          · exact SeqAt.in_tuple_reads r2 r1 hl (SeqAt.canLay_of_shaped sd) (room_in_shaped sd hu) ⟨H, I, by rw [any_pd]; rfl, q⟩
          · exact SeqAt.notIn_tuple_reads r2 r1 hl (SeqAt.canLay_of_shaped sd) (room_in_shaped sd hu) ⟨H, I, by rw [any_pd]; rfl, q⟩
        · cases e
      · cases e
  · rename_i z ev
    rw [ev] at rw0
    split at e
    · rename_i x'
      split at e
      · rename_i h
        cases e
        have ex : x = .str x' := ra.w.str
        have ey := rw0.str
        rw [one_sign h] at ex
        cases neg
        · refine thn (op_in_sign pins s σ H x y v u (fun w H' => w = .bl (decide (x'.cps.getD 0 0 ∈ z.cps.toList)) ∧ H' = H) I rx ry ⟨_, z, ex, ey, rfl, rfl⟩) fun r s' ⟨w, H', I', rr, ew, eH⟩ => ?_
          subst ew eH
          exact ⟨_, I', rr, q⟩
        · refine thn (op_notIn_sign pins s σ H x y v u (fun w H' => w = .bl (!decide (x'.cps.getD 0 0 ∈ z.cps.toList)) ∧ H' = H) I rx ry ⟨_, z, ex, ey, rfl, rfl⟩) fun r s' ⟨w, H', I', rr, ew, eH⟩ => ?_
          subst ew eH
          exact ⟨_, I', rr, q⟩
      · cases e
    · cases e
  · rename_i l ev
    rw [ev] at rw0
    have rw1 : Rep X.K X.mg μ H (.loc l) y := rw0
    unfold Rep at rw1
    obtain ⟨ad, rfl, hμ⟩ := rw1
    split at e
    · rename_i t kvs es
      split at e
      · rename_i hk
        cases e
        obtain ⟨o, g, m⟩ := look_okO rs hμ es hk ra
        obtain rfl : u = Value.ref ad := ry
        have ho : o.isSome = (dLook t kvs a).isSome := by
          cases el : dLook t kvs a with
          | some d => rw [el] at m; obtain ⟨v', e', _⟩ := m; rw [e']; rfl
          | none => rw [el] at m; rw [show o = none from m]; rfl
        cases neg
        · exact d_in (by omega) I g rx fun s' I' => ⟨H, I', by rw [ho]; rfl, q⟩
        · exact d_notIn (by omega) I g rx fun s' I' => ⟨H, I', by rw [ho]; rfl, q⟩
      · cases e
    · cases e
  · cases e
theorem o_in (hu : X.A.units + 65 < cLine) : OpR X (compareOp .In) (rS X.K X.mg fIn) := by
  intro pins s σ H x y v u Q I rx ry ⟨μ, S, a, b, d, rs, ra, rb, e, q⟩
  unfold fIn at e
  obtain ⟨c, e1, e2⟩ := Option.map_eq_some_iff.mp e
  subst e2
  exact thn (in_core hu (Q := fun c' H' => c' = c ∧ H' = H) I rx ry rs ra rb e1 ⟨rfl, rfl⟩ false) fun r s' ⟨H', I', er, _, eH⟩ => by
    subst er eH
    exact ⟨.bl c, _, I', rfl, q _ _ .rfl (rep_bool _)⟩
theorem o_notin (hu : X.A.units + 65 < cLine) : OpR X (compareOp .NotIn) (rS X.K X.mg fNotIn) := by
  intro pins s σ H x y v u Q I rx ry ⟨μ, S, a, b, d, rs, ra, rb, e, q⟩
  unfold fNotIn at e
  obtain ⟨c, e1, e2⟩ := Option.map_eq_some_iff.mp e
  subst e2
  exact thn (in_core hu (Q := fun c' H' => c' = c ∧ H' = H) I rx ry rs ra rb e1 ⟨rfl, rfl⟩ true) fun r s' ⟨H', I', er, _, eH⟩ => by
    subst er eH
    exact ⟨.bl (!c), _, I', rfl, q _ _ .rfl (rep_bool _)⟩
end
/-! ### subscripts -/
def fIx (S : Sto) (a k : D) : Option D := match view S a with
  | .lst xs => match k with
    | .int i => atI xs i
    | _ => none
  | .tup xs => match k with
    | .int i => atI xs i
    | _ => none
  | .ro xs => match k with
    | .int i => atI xs i
    | _ => none
  | .str z => match k with
    | .int i => if z.length ≤ 1000000 then (atI z.cps.toList i).map fun c => .str ⟨#[c]⟩ else none
    | _ => none
  | .loc l => match dctOf S[l]? with
    | some (t, kvs) => if keyOk t k then dLook t kvs k else none
    | none => none
  | _ => none
theorem RepAll.atI {K : PySem.W.Frag} {mg : Str → Option Value} {μ : Mu} {H : Hp} {xs : List D} {vs : List V} {i : Int} {d : D} (r : RepAll K mg μ H xs vs) (h : L2.atI xs i = some d) : ∃ v, L2.atI vs i = some v ∧ Rep K mg μ H d v := by
  unfold L2.atI at *
  rw [← r.length]
  obtain ⟨j, h1, h2⟩ := Option.bind_eq_some_iff.mp h
  obtain ⟨v, e1, e2⟩ := r.get h2
  exact ⟨v, by rw [h1]; exact e1, e2⟩
section
variable {X : Cx} {W : WX} {a b : Expr} {pos : Pos} {ma mb : ME}
theorem ix_any (hu : X.A.units + 1 < cLine) : IxR X (rS X.K X.mg fIx) := by
  intro value slice pins s σ H x y v u Q I rx ry ⟨μ, S, a, k, d, rs, ra, rb, e, q⟩ hs
  unfold fIx at e
  have rw0 := rs.view ra
  split at e
  · rename_i xs ev
    rw [ev] at rw0
    split at e
    · obtain ⟨p, vs, ep, hp, l⟩ := rw0
      obtain ⟨w, h1, h2⟩ := l.atI e
      exact ix_list value slice pins s σ H x y v u Q I rx ry ⟨p, vs, _, w, ep, rb.w.int, .of hp, h1, q H w .rfl h2⟩ hs
    · cases e
  · rename_i xs ev
    rw [ev] at rw0
    split at e
    · obtain ⟨p, vs, ep, hp, l, _⟩ := rw0.tup
      obtain ⟨w, h1, h2⟩ := l.atI e
      exact ix_tup value slice pins s σ H x y v u Q I rx ry ⟨p, vs, _, w, ep, rb.w.int, .inl hp, h1, q H w .rfl h2⟩ hs
    · cases e
  · rename_i xs ev
    rw [ev] at rw0
    split at e
    · have rw0 : Rep X.K X.mg μ H (.ro xs) x := rw0
      unfold Rep at rw0
      obtain ⟨p, vs, ep, hp, l⟩ := rw0
      obtain ⟨w, h1, h2⟩ := l.atI e
      exact ix_list value slice pins s σ H x y v u Q I rx ry ⟨p, vs, _, w, ep, rb.w.int, hp.sq, h1, q H w .rfl h2⟩ hs
    · cases e
  · rename_i z ev
    rw [ev] at rw0
    split at e
    · split at e
      · rename_i hz
        obtain ⟨c, h1, h2⟩ := Option.map_eq_some_iff.mp e
        subst h2
        exact ix_str value slice pins s σ H x y v u Q I rx ry ⟨z, _, c, rw0.str, rb.w.int, line_big hz, h1, q H _ .rfl (rep_str _)⟩ hs
      · cases e
    · cases e
  · rename_i l ev
    rw [ev] at rw0
    have rw1 : Rep X.K X.mg μ H (.loc l) x := rw0
    unfold Rep at rw1
    obtain ⟨ad, rfl, hμ⟩ := rw1
    split at e
    · rename_i t kvs es
      split at e
      · rename_i hk
        obtain ⟨o, g, m⟩ := look_okO rs hμ es hk rb
        rw [e] at m
        obtain ⟨w, eo, rw'⟩ := m
        subst eo
        obtain rfl : v = Value.ref ad := rx
        have hT := dict_typeIs I g
        unfold subscriptTail
        refine wpAny_bind ?_
        rw [getitemInPython_of_ne hT.not_modules]
        refine wpAny_bind (wpAny_specialOf hT PySem.F.slot_dict_getitem.lookup ?_)
        have fin : wpAny (model X.prog X.w) X.A (subscripted slice false (.ref ad) u) (fun r s₃ => wpAny (model X.prog X.w) X.A (letTemporaryGo value (.ref ad) r >>= fun _ => pure r) (EP X pins σ Q) X.xe s₃) X.xe s := by
          rw [hs]
          exact wpAny_operating (thn (d_getItem hu I g ry fun w' s3 I3 rw2 => (⟨w, H, I3, rw2, q H w .rfl rw'⟩ : EP X pins σ Q w' s3)) fun r s₃ h₃ => wpAny_bind (wpAny_letTemporaryGo (wpAny_pure h₃)))
        first
          | exact wpAny_pure (wpAny_bind fin)
          | exact wpAny_bind (wpAny_pure (wpAny_bind fin))
          | exact wpAny_bind fin
      · cases e
    · cases e
  · cases e
theorem sE_ix (hu : X.A.units + 1 < cLine) (ha : PE X a (tE X W ma)) (hb : PE X b (tE X W mb)) (hs : PlainIx b := by exact fun _ _ => rfl) : PE X (.Subscript a b pos) (tE X W (eBin fIx ma mb)) :=
  pe_to (pe_ix (ix_any hu) ha hb hs) fun _ _ _ h => t_bin h
end
/-! ### slices -/
def cutD {α : Type} (xs : List α) (lo hi : Option Int) : List α := (xs.drop (HT.sIx xs.length 0 lo)).take (HT.sIx xs.length xs.length hi - HT.sIx xs.length 0 lo)
def fCut (d : D) (lo hi : Option Int) : Option D := match d with
  | .lst xs => some (.lst (cutD xs lo hi))
  | .tup xs => some (.tup (cutD xs lo hi))
  | .tpn xs => some (if HT.sIx xs.length 0 lo = 0 ∧ HT.sIx xs.length xs.length hi = xs.length then .tpn xs else .tup (cutD xs lo hi))
  | .str z => if z.length ≤ 1000000 then some (.str (cutS z lo hi)) else none
  | _ => none
abbrev MP := En → Sto → Res (Option Int)
def pNo : MP := fun _ S => .ok none S
def pSome (m : ME) : MP := fun env S => (m env S).bind fun d S => match d with
  | .int i => .ok (some i) S
  | _ => .stuck
def eCut (m : ME) (ml mh : MP) : ME := fun env S => (m env S).bind fun d S => (ml env S).bind fun lo S => (mh env S).bind fun hi S => ofO S (fCut (view0 S d) lo hi)
section
variable {X : Cx} {W : WX} {e : Expr} {pos p2 : Pos} {m : ME} {ml mh : MP} {lo hi : Option Expr}
abbrev tP (X : Cx) (W : WX) (m : MP) : L2.St → Hp → (Option Int → Hp → Prop) → Prop := tM X (fun _ _ a b => b = a) W m
def PO' (X : Cx) (W : WX) (o : Option Expr) (m : MP) : Prop := PO X o (tP X W m)
theorem sp_no : PO' X W none pNo := ⟨fun pins s σ H Q I h => po_none.run pins s σ H Q I (by
  obtain ⟨env, S, μ, rl, o⟩ := h
  exact o μ H none .refl rl.sto rfl)⟩
theorem sp_some (h : PE X e (tE X W m)) : PO' X W (some e) (pSome m) := ⟨fun pins s σ H Q I w => (po_some h).run pins s σ H Q I (by
  obtain ⟨env, S, μ, rl, o⟩ := w
  refine ⟨env, S, μ, rl, (Out.bind o).mono fun x H1 ⟨μ1, S1, d, st, rs, r, o1⟩ => ?_⟩
  cases d with
  | int i => unfold Rep at r; exact ⟨i, r, o1 μ1 H1 _ .refl rs rfl⟩
  | _ => exact o1.elim)⟩
theorem sl_any : SlR X (fun x lo hi H Q => ∃ μ S d d', RelS X.K X.mg μ H S ∧ RepV X.K X.mg μ H d x ∧ fCut d lo hi = some d' ∧ ∀ H' v, Sm H H' → Rep X.K X.mg μ H' d' v → Q v H') := by
  intro pins s σ H x v vl vu lo hi sl Q I rx hs pl pu ⟨μ, S, d, d', rs, r, e, q⟩
  unfold fCut at e
  split at e
  · cases e
    obtain ⟨a, vs, ea, ha, l⟩ := r
    refine sl_list pins s σ H x v vl vu lo hi sl Q I rx hs pl pu ⟨a, vs, ea, .of ha, fun p hp => q _ _ (.upd hp) ?_⟩
    refine rep_new_lst rs hp ?_
    unfold cutD cutV
    rw [← l.length]
    exact (l.drop _).take _
  · rename_i xs
    cases e
    have r' : Rep X.K X.mg μ H (.tup xs) x := r
    obtain ⟨a, vs, ea, ha, l, na⟩ := r.vt
    subst ea
    have el : cutV vs lo hi = (vs.drop (HT.sIx xs.length 0 lo)).take (HT.sIx xs.length xs.length hi - HT.sIx xs.length 0 lo) := by unfold cutV; rw [← l.length]
    refine sl_tupA pins s σ H _ v vl vu lo hi sl Q I rx hs pl pu ⟨a, vs, rfl, .inl ha, fun hw => q H _ .rfl ?_, fun _ p hp => q _ _ (.upd hp) ?_⟩
    · have : cutD xs lo hi = xs := by
        unfold cutD
        rw [← l.length] at hw
        rw [hw.1, hw.2]; simp
      rw [this]
      exact r'
    · refine rep_new_tup rs hp ?_
      rw [el]
      unfold cutD
      exact (l.drop _).take _
  · rename_i xs
    cases e
    have r' : Rep X.K X.mg μ H (.tpn xs) x := r
    obtain ⟨a, vs, ea, ha, l, na⟩ := r.vt
    subst ea
    have el : cutV vs lo hi = (vs.drop (HT.sIx xs.length 0 lo)).take (HT.sIx xs.length xs.length hi - HT.sIx xs.length 0 lo) := by unfold cutV; rw [← l.length]
    refine sl_tupA pins s σ H _ v vl vu lo hi sl Q I rx hs pl pu ⟨a, vs, rfl, .inl ha, fun hw => q H _ .rfl ?_, fun hw p hp => q _ _ (.upd hp) ?_⟩
    · rw [← l.length] at hw
      rw [if_pos hw]
      exact r'
    · rw [← l.length] at hw
      rw [if_neg hw]
      refine rep_new_tup rs hp ?_
      rw [el]
      unfold cutD
      exact (l.drop _).take _
  · split at e
    · rename_i hz
      cases e
      exact sl_str pins s σ H x v vl vu lo hi sl Q I rx hs pl pu ⟨_, RepV.str r, line_big hz, q H _ .rfl (rep_str _)⟩
    · cases e
  · cases e
theorem sE_cut (he : PE X e (tE X W m)) (hl : PO' X W lo ml) (hh : PO' X W hi mh) : PE X (.Subscript e (.Slice lo hi none p2) pos) (tE X W (eCut m ml mh)) :=
  pe_to (pe_slice sl_any he hl hh) fun σ H Q ⟨env, S, μ, rl, o⟩ => by
    refine ⟨env, S, μ, rl, (Out.bind o).mono fun x H1 ⟨μ1, S1, d, st, rs, r, o1⟩ => ?_⟩
    refine ⟨env, S1, μ1, ⟨rl.env.step st, rs⟩, (Out.bind o1).mono fun lo' H2 ⟨μ2, S2, dl, st2, rs2, rl2, o2⟩ => ?_⟩
    subst rl2
    refine ⟨env, S2, μ2, ⟨(rl.env.step st).step st2, rs2⟩, (Out.bind o2).mono fun hi' H3 ⟨μ3, S3, dh, st3, rs3, rh3, o3⟩ => ?_⟩
    subst rh3
    cases e : fCut (view0 S3 d) lo' hi' with
    | none => rw [e] at o3; exact o3.elim
    | some d' =>
      rw [e] at o3
      exact ⟨μ3, S3, _, d', rs3, rs3.view0 (Rep.step st3 _ _ (Rep.step st2 _ _ r)), e, fun H' v sm rr => o3 μ3 H' v (.of_sm sm) (rs3.sm sm) rr⟩
end
end DL

set_option Elab.async false
set_option linter.all false
set_option maxRecDepth 100000
/-! DL5: names, constants, truth, and, or, displays; statements. -/
namespace DL
open PySem PySem.Spec PyProof.Rows L2
/-! ### names and constants -/
def eC (d : D) : ME := fun _ S => .ok d S
def eV (i : Nat) : ME := fun env S => match env[i]? with
  | some (some d) => .ok d S
  | _ => .stuck
section
variable {X : Cx} {W : WX} {a b c e : Expr} {pos : Pos} {m ma mb mc : ME} {ta tb tc : MT} {rest : List Expr}
theorem sE_c {te : TE} {d : D} (h : PE X e te) (i : ∀ σ H Q μ S, RelS X.K X.mg μ H S → (∀ v, Rep X.K X.mg μ H d v → Q v H) → te σ H Q) : PE X e (tE X W (eC d)) :=
  pe_to h fun σ H Q ⟨env, S, μ, rl, o⟩ => i σ H Q μ S rl.sto fun v r => o μ H v .refl rl.sto r
theorem sE_int {i j} : PE X (.Constant (.int i) j pos) (tE X W (eC (.int i))) := sE_c pe_int fun _ _ _ _ _ _ q => q _ (rep_int _)
theorem sE_bool {i j} : PE X (.Constant (.bool i) j pos) (tE X W (eC (.bool i))) := sE_c pe_bl fun _ _ _ _ _ _ q => q _ (rep_bool _)
theorem sE_none {j} : PE X (.Constant .none j pos) (tE X W (eC .none)) := sE_c pe_non fun _ _ _ _ _ _ q => q _ rep_none
theorem sE_str {i j} : PE X (.Constant (.str i) j pos) (tE X W (eC (.str i))) := sE_c pe_str fun _ _ _ _ _ _ q => q _ (rep_str _)
theorem sE_var (i : Nat) {x : Str} (hN : X.N[i]? = some x := by rfl) (hv : Vis X.env.scope x := by first | exact Or.inl rfl | exact Or.inr (Or.inl rfl) | exact Or.inr (Or.inr rfl)) (hd : (x == ("__debug__" : Str)) = false := by decide)
    (hcd : (x == ("__classdict__" : Str)) = false := by decide) : PE X (.Name x pos) (tE X W (eV i)) :=
  pe_to (pe_var hN hv hd hcd) fun σ H Q ⟨env, S, μ, rl, o⟩ => by
    unfold eV at o
    cases e : env[i]? with
    | none => simp only [e] at o; exact o.elim
    | some w =>
      cases w with
      | none => simp only [e] at o; exact o.elim
      | some d =>
        simp only [e] at o
        obtain ⟨v, h1, h2⟩ := rl.env.at_ i d e
        exact ⟨v, h1, o μ H v .refl rl.sto h2⟩
theorem sE_gint {x : Str} {i : Int} {t} (hg : Gl X x) (hm : X.mg x = some (.int i t)) (hd : (x == ("__debug__" : Str)) = false := by decide) : PE X (.Name x pos) (tE X W (eC (.int i))) :=
  sE_c (pe_glob (v := .int i) hg hm ⟨_, rfl⟩ hd) fun _ _ _ _ _ _ q => q _ (rep_int _)
theorem sE_gstr {x : Str} {i : Str} {t} (hg : Gl X x) (hm : X.mg x = some (.str i t)) (hd : (x == ("__debug__" : Str)) = false := by decide) : PE X (.Name x pos) (tE X W (eC (.str i))) :=
  sE_c (pe_glob (v := .str i) hg hm ⟨_, rfl⟩ hd) fun _ _ _ _ _ _ q => q _ (rep_str _)
theorem sE_ty {x : Str} {n : String} (hg : Gl X x) (hm : X.mg x = none) (hv : bootBuiltins x = some (.type n)) (hn : x ≠ "__name__" := by decide) (hd : (x == ("__debug__" : Str)) = false := by decide) : PE X (.Name x pos) (tE X W (eC (.ty n))) :=
  sE_c (pe_bltn (v := .ty n) hg hm hv rfl hn hd) fun _ _ _ _ _ _ q => q _ (by unfold Rep; rfl)
theorem sE_glo {x : Str} {a : Addr} (hg : Gl X x) (hm : X.mg x = some (.ref a)) (hd : (x == ("__debug__" : Str)) = false := by decide) : PE X (.Name x pos) (tE X W (eC (.glo x))) :=
  sE_c (pe_glob (v := .ref a) hg hm rfl hd) fun _ _ _ _ _ _ q => q _ (by unfold Rep; exact ⟨a, rfl, hm⟩)
/-! ### truth -/
def dTru (S : Sto) (d : D) : Option Bool := match view S d with
  | .none => some false
  | .bool b => some b
  | .int i => some (i != 0)
  | .str x => if x.length ≤ 1000000 then some ((x.length : Int) != 0) else none
  | .tup xs => some (!xs.isEmpty)
  | .lst xs => some (!xs.isEmpty)
  | .ro xs => some (!xs.isEmpty)
  | .loc l => match S[l]? with
    | some (.dct false kvs) => some (!kvs.isEmpty)
    | _ => none
  | _ => none
theorem isEmpty_all {K : PySem.W.Frag} {mg : Str → Option Value} {μ : Mu} {H : Hp} {xs : List D} {vs : List V} (r : RepAll K mg μ H xs vs) : xs.isEmpty = vs.isEmpty := by
  cases xs with
  | nil => unfold RepAll at r; subst r; rfl
  | cons a b => unfold RepAll at r; obtain ⟨v, q, rfl, _⟩ := r; rfl
theorem tru_rep {K : PySem.W.Frag} {mg : Str → Option Value} {μ : Mu} {H : Hp} {S : Sto} {d : D} {x : V} {k : Bool} (rs : RelS K mg μ H S) (r : Rep K mg μ H d x) (e : dTru S d = some k) : TruV K x H k := by
  unfold dTru at e
  have w := rs.view r
  split at e
  · rename_i ev
    rw [ev] at w; cases e
    have w : Rep K mg μ H .none x := w
    unfold Rep at w; subst w; rfl
  · rename_i ev
    rw [ev] at w; cases e
    have w : Rep K mg μ H (.bool _) x := w
    unfold Rep at w; subst w; rfl
  · rename_i ev
    rw [ev] at w; cases e
    rw [w.int]; rfl
  · rename_i ev
    rw [ev] at w
    split at e
    · rename_i hz
      cases e
      rw [w.str]; exact ⟨line_big hz, rfl⟩
    · cases e
  · rename_i ev
    rw [ev] at w; cases e
    obtain ⟨a, vs, rfl, h, l, _⟩ := w.tup
    exact .inr (.inl ⟨vs, .inl h, by rw [isEmpty_all l]⟩)
  · rename_i ev
    rw [ev] at w; cases e
    obtain ⟨a, vs, rfl, h, l⟩ := w
    exact .inl ⟨vs, .of h, by rw [isEmpty_all l]⟩
  · rename_i ev
    rw [ev] at w; cases e
    have w : Rep K mg μ H (.ro _) x := w
    unfold Rep at w
    obtain ⟨a, vs, rfl, h, l⟩ := w
    exact .inl ⟨vs, h.sq, by rw [isEmpty_all l]⟩
  · rename_i l ev
    rw [ev] at w
    have w : Rep K mg μ H (.loc l) x := w
    unfold Rep at w
    obtain ⟨a, rfl, hμ⟩ := w
    split at e
    · rename_i kvs es
      cases e
      obtain ⟨a', h1, vs, ks, ⟨h2, hk⟩, l⟩ := rs.at_ _ _ es
      rw [hμ] at h1; cases h1
      refine .inr (.inr ⟨_, h2, ?_⟩)
      cases kvs with
      | nil =>
        cases ks with
        | nil => rfl
        | cons a b => cases hk
      | cons p q =>
        cases ks with
        | nil => cases hk
        | cons a b =>
          have l : RepAll K mg μ H (p.2 :: q.map (·.2)) vs := l
          unfold RepAll at l
          obtain ⟨v, r, rfl, _⟩ := l
          rfl
    · cases e
  · cases e
def tTru (m : ME) : MT := fun env S => (m env S).bind fun d S => ofO S (dTru S d)
theorem t_tru {σ : L2.St} {H : Hp} {Q : Bool → Hp → Prop} (h : tT X W (tTru m) σ H Q) : tE X W m σ H fun x H' => ∃ k, TruV X.K x H' k ∧ Q k H' := by
  obtain ⟨env, S, μ, rl, o⟩ := h
  refine ⟨env, S, μ, rl, (Out.bind o).mono fun x H1 ⟨μ1, S1, d, st, rs, r, o1⟩ => ?_⟩
  cases e : dTru S1 d with
  | none => rw [e] at o1; exact o1.elim
  | some k => rw [e] at o1; exact ⟨k, tru_rep rs r e, o1 μ1 H1 k .refl rs rfl⟩
theorem sT_val (h : PE X a (tE X W m)) (he : ∀ whole, isTrue a X.env whole = (do let v ← whole; standAt a.pos; holding [v] (truthy v)) := by exact fun _ => rfl) : PT X a (tT X W (tTru m)) :=
  pt_to (pt_truth h he) fun σ H Q w => t_tru w
def tAndM (ma mb : MT) : MT := fun env S => (ma env S).bind fun c S => if c = true then mb env S else .ok false S
def tOrM (ma mb : MT) : MT := fun env S => (ma env S).bind fun c S => if c = true then .ok true S else mb env S
def tNotM (ma : MT) : MT := fun env S => (ma env S).bind fun c S => .ok (!c) S
theorem sW_and1 (h : PT X a (tT X W ta)) : PW X (.BoolOp .And [a] pos) (tT X W ta) := pw_and1 h
theorem sW_or1 (h : PT X a (tT X W ta)) : PW X (.BoolOp .Or [a] pos) (tT X W ta) := pw_or1 h
theorem sW_and (ha : PT X a (tT X W ta)) (hb : PW X (.BoolOp .And (b :: rest) pos) (tT X W tb)) : PW X (.BoolOp .And (a :: b :: rest) pos) (tT X W (tAndM ta tb)) :=
  pw_to (pw_and ha hb) fun σ H Q ⟨env, S, μ, rl, o⟩ => ⟨env, S, μ, rl, (Out.bind o).mono fun x H1 ⟨μ1, S1, d, st, rs, r, o1⟩ => by
    subst r
    cases x with
    | true => exact ⟨env, S1, μ1, ⟨rl.env.step st, rs⟩, o1⟩
    | false => exact o1 μ1 H1 _ .refl rs rfl⟩
theorem sW_or (ha : PT X a (tT X W ta)) (hb : PW X (.BoolOp .Or (b :: rest) pos) (tT X W tb)) : PW X (.BoolOp .Or (a :: b :: rest) pos) (tT X W (tOrM ta tb)) :=
  pw_to (pw_or ha hb) fun σ H Q ⟨env, S, μ, rl, o⟩ => ⟨env, S, μ, rl, (Out.bind o).mono fun x H1 ⟨μ1, S1, d, st, rs, r, o1⟩ => by
    subst r
    cases x with
    | false => exact ⟨env, S1, μ1, ⟨rl.env.step st, rs⟩, o1⟩
    | true => exact o1 μ1 H1 _ .refl rs rfl⟩
theorem sT_bop {op es} (h : PW X (.BoolOp op es pos) (tT X W ta)) : PT X (.BoolOp op es pos) (tT X W ta) := h.pt
theorem sT_not (ha : PT X a (tT X W ta)) : PT X (.UnaryOp .Not a pos) (tT X W (tNotM ta)) :=
  pt_to (pt_not ha) fun σ H Q ⟨env, S, μ, rl, o⟩ => ⟨env, S, μ, rl, (Out.bind o).mono fun x H1 ⟨μ1, S1, d, st, rs, r, o1⟩ => by
    subst r
    exact o1 μ1 H1 _ .refl rs rfl⟩
/-! as values -/
def eAnd (ma mb : ME) : ME := fun env S => (ma env S).bind fun d S => (ofO S (dTru S d)).bind fun c S => if c = true then mb env S else .ok d S
def eOr (ma mb : ME) : ME := fun env S => (ma env S).bind fun d S => (ofO S (dTru S d)).bind fun c S => if c = true then .ok d S else mb env S
def eNot (ma : ME) : ME := fun env S => (ma env S).bind fun d S => (ofO S (dTru S d)).bind fun c S => .ok (.bool (!c)) S
def eIf (tc : MT) (ma mb : ME) : ME := fun env S => (tc env S).bind fun c S => if c = true then ma env S else mb env S
theorem sE_one {op} (h : PE X a (tE X W m)) : PE X (.BoolOp op [a] pos) (tE X W m) := pe_one h
theorem sE_and (ha : PE X a (tE X W ma)) (hb : PE X (.BoolOp .And (b :: rest) pos) (tE X W mb)) : PE X (.BoolOp .And (a :: b :: rest) pos) (tE X W (eAnd ma mb)) :=
  pe_to (pe_andT ha hb) fun σ H Q ⟨env, S, μ, rl, o⟩ => ⟨env, S, μ, rl, (Out.bind o).mono fun x H1 ⟨μ1, S1, d, st, rs, r, o1⟩ => by
    cases e : dTru S1 d with
    | none => rw [e] at o1; exact o1.elim
    | some k =>
      rw [e] at o1
      refine ⟨k, tru_rep rs r e, ?_⟩
      cases k with
      | true => exact ⟨env, S1, μ1, ⟨rl.env.step st, rs⟩, o1⟩
      | false => exact o1 μ1 H1 _ .refl rs r⟩
theorem sE_or (ha : PE X a (tE X W ma)) (hb : PE X (.BoolOp .Or (b :: rest) pos) (tE X W mb)) : PE X (.BoolOp .Or (a :: b :: rest) pos) (tE X W (eOr ma mb)) :=
  pe_to (pe_orT ha hb) fun σ H Q ⟨env, S, μ, rl, o⟩ => ⟨env, S, μ, rl, (Out.bind o).mono fun x H1 ⟨μ1, S1, d, st, rs, r, o1⟩ => by
    cases e : dTru S1 d with
    | none => rw [e] at o1; exact o1.elim
    | some k =>
      rw [e] at o1
      refine ⟨k, tru_rep rs r e, ?_⟩
      cases k with
      | false => exact ⟨env, S1, μ1, ⟨rl.env.step st, rs⟩, o1⟩
      | true => exact o1 μ1 H1 _ .refl rs r⟩
theorem sE_not (ha : PE X a (tE X W ma)) : PE X (.UnaryOp .Not a pos) (tE X W (eNot ma)) :=
  pe_to (pe_notT ha) fun σ H Q ⟨env, S, μ, rl, o⟩ => ⟨env, S, μ, rl, (Out.bind o).mono fun x H1 ⟨μ1, S1, d, st, rs, r, o1⟩ => by
    cases e : dTru S1 d with
    | none => rw [e] at o1; exact o1.elim
    | some k =>
      rw [e] at o1
      exact ⟨k, tru_rep rs r e, o1 μ1 H1 _ .refl rs (rep_bool _)⟩⟩
theorem sE_if (hc : PT X c (tT X W tc)) (ha : PE X a (tE X W ma)) (hb : PE X b (tE X W mb)) : PE X (.IfExp c a b pos) (tE X W (eIf tc ma mb)) :=
  pe_to (pe_ifExp hc ha hb) fun σ H Q ⟨env, S, μ, rl, o⟩ => ⟨env, S, μ, rl, (Out.bind o).mono fun x H1 ⟨μ1, S1, d, st, rs, r, o1⟩ => by
    subst r
    cases x with
    | true => exact ⟨env, S1, μ1, ⟨rl.env.step st, rs⟩, o1⟩
    | false => exact ⟨env, S1, μ1, ⟨rl.env.step st, rs⟩, o1⟩⟩
def eNeg (ma : ME) : ME := fun env S => (ma env S).bind fun d S => match d with
  | .int i => .ok (.int (-i)) S
  | _ => .stuck
theorem sE_neg (ha : PE X a (tE X W ma)) : PE X (.UnaryOp .USub a pos) (tE X W (eNeg ma)) :=
  pe_to (pe_un un_neg ha) fun σ H Q ⟨env, S, μ, rl, o⟩ => ⟨env, S, μ, rl, (Out.bind o).mono fun x H1 ⟨μ1, S1, d, st, rs, r, o1⟩ => by
    cases d with
    | int i => unfold Rep at r; exact ⟨i, r, o1 μ1 H1 _ .refl rs (rep_int _)⟩
    | _ => exact o1.elim⟩
/-! ### a < b < c -/
def eChain (f g : Sto → D → D → Option D) (ma mb mc : ME) : ME := fun env S => (ma env S).bind fun a S => (mb env S).bind fun b S => match f S a b with
  | some (.bool true) => (mc env S).bind fun c S => ofO S (g S b c)
  | some (.bool false) => .ok (.bool false) S
  | _ => .stuck
theorem t_chain {f g : Sto → D → D → Option D} {σ : L2.St} {H : Hp} {Q : VK} (h : tE X W (eChain f g ma mb mc) σ H Q) : tChain (rS X.K X.mg f) (rS X.K X.mg g) (tE X W ma) (tE X W mb) (tE X W mc) σ H Q := by
  obtain ⟨env, S, μ, rl, o⟩ := h
  refine ⟨env, S, μ, rl, (Out.bind o).mono fun x H1 ⟨μ1, S1, da, st, rs, ra, o1⟩ => ?_⟩
  refine ⟨env, S1, μ1, ⟨rl.env.step st, rs⟩, (Out.bind o1).mono fun y H2 ⟨μ2, S2, db, st2, rs2, rb, o2⟩ => ?_⟩
  cases e : f S2 da db with
  | none => simp only [e] at o2; exact o2.elim
  | some d =>
    simp only [e] at o2
    refine ⟨μ2, S2, _, _, d, rs2, Rep.step st2 _ _ ra, rb, e, fun H' v sm r => ?_⟩
    cases d with
    | bool k =>
      unfold Rep at r
      refine ⟨k, r, ?_⟩
      have st3 : Step μ2 H2 μ2 H' := .of_sm sm
      cases k with
      | false => exact o2 μ2 H' _ st3 (rs2.sm sm) (rep_bool _)
      | true =>
        refine ⟨env, S2, μ2, ⟨((rl.env.step st).step st2).step st3, rs2.sm sm⟩, (Out.bind (Out.of_step st3 o2)).mono fun z H4 ⟨μ4, S4, dc, st4, rs4, rc, o4⟩ => ?_⟩
        cases e2 : g S4 db dc with
        | none => rw [e2] at o4; exact o4.elim
        | some d2 =>
          rw [e2] at o4
          exact ⟨μ4, S4, _, _, d2, rs4, Rep.step st4 _ _ (Rep.step st3 _ _ rb), rc, e2, fun H5 v5 sm5 r5 => o4 μ4 H5 v5 (.of_sm sm5) (rs4.sm sm5) r5⟩
    | _ => exact o2.elim
theorem sE_chain {op op' : CmpOp} {f g : Sto → D → D → Option D} (ho : OpR X (compareOp op) (rS X.K X.mg f)) (ho' : OpR X (compareOp op') (rS X.K X.mg g)) (ha : PE X a (tE X W ma)) (hb : PE X b (tE X W mb)) (hc : PE X c (tE X W mc))
    (hm : lastMarks [op, op'] [b, c] = false := by with_unfolding_all rfl) : PE X (.Compare a [op, op'] [b, c] pos) (tE X W (eChain f g ma mb mc)) := pe_to (pe_chain ho ho' ha hb hc hm) fun _ _ _ h => t_chain h
theorem sT_chain {op op' : CmpOp} {f g : Sto → D → D → Option D} (ho : OpR X (compareOp op) (rS X.K X.mg f)) (ho' : OpR X (compareOp op') (rS X.K X.mg g)) (ha : PE X a (tE X W ma)) (hb : PE X b (tE X W mb)) (hc : PE X c (tE X W mc))
    (hm : lastMarks [op, op'] [b, c] = false := by with_unfolding_all rfl) : PT X (.Compare a [op, op'] [b, c] pos) (tT X W (tOf (eChain f g ma mb mc))) := pt_to (pt_chain ho ho' ha hb hc hm) fun σ H Q h => by
    obtain ⟨env, S, μ, rl, o⟩ := t_of h
    exact t_chain ⟨env, S, μ, rl, o⟩
/-! ### arguments, displays -/
def aNil : MA := fun _ S => .ok [] S
def aCons (m : ME) (r : MA) : MA := fun env S => (m env S).bind fun d S => (r env S).bind fun ds S => .ok (d :: ds) S
theorem sA_nil : PA X [] (tAs X W aNil) := pa_to pa_nil fun σ H Q ⟨env, S, μ, rl, o⟩ => o μ H [] .refl rl.sto .nil
theorem sA_cons {es : List Expr} {r : MA} (he : PE X e (tE X W m)) (hr : PA X es (tAs X W r)) (hs : starEach (e :: es) X.env = (false, eval e X.env) :: starEach es X.env := by rfl) : PA X (e :: es) (tAs X W (aCons m r)) :=
  pa_to (pa_cons he hr hs) fun σ H Q ⟨env, S, μ, rl, o⟩ => ⟨env, S, μ, rl, (Out.bind o).mono fun x H1 ⟨μ1, S1, d, st, rs, rd, o1⟩ =>
    ⟨env, S1, μ1, ⟨rl.env.step st, rs⟩, (Out.bind o1).mono fun xs H2 ⟨μ2, S2, ds, st2, rs2, rds, o2⟩ => o2 μ2 H2 _ .refl rs2 (.cons (Rep.step st2 _ _ rd) rds)⟩⟩
def eTup (r : MA) : ME := fun env S => (r env S).bind fun ds S => if ds.length ≤ 1000000 then .ok (.tup ds) S else .stuck
def eLst (r : MA) : ME := fun env S => (r env S).bind fun ds S => if ds.length ≤ 1000000 then .ok (.lst ds) S else .stuck
def eLstM (r : MA) : ME := fun env S => (r env S).bind fun ds S => if ds.length ≤ 1000000 then .ok (.loc S.length) (S ++ [.lst ds]) else .stuck
variable {es : List Expr} {r : MA}
theorem sE_tup {x1} (h : PA X es (tAs X W r)) : PE X (.Tuple es x1 pos) (tE X W (eTup r)) := pe_to (pe_tup h) fun σ H Q ⟨env, S, μ, rl, o⟩ => ⟨env, S, μ, rl, (Out.bind o).mono fun xs H1 ⟨μ1, S1, ds, st, rs, rd, o1⟩ => by
  split at o1
  · rename_i hz
    exact ⟨by rw [← rd.length]; exact line_big hz, fun p hp => o1 μ1 _ _ (.of_sm (.upd hp)) (rs.sm (.upd hp)) (rep_new_tup rs hp rd)⟩
  · exact o1.elim⟩
theorem sE_lst (h : PA X es (tAs X W r)) : PE X (.List es pos) (tE X W (eLst r)) := pe_to (pe_lst h) fun σ H Q ⟨env, S, μ, rl, o⟩ => ⟨env, S, μ, rl, (Out.bind o).mono fun xs H1 ⟨μ1, S1, ds, st, rs, rd, o1⟩ => by
  split at o1
  · rename_i hz
    exact ⟨by rw [← rd.length]; exact line_big hz, fun p hp => o1 μ1 _ _ (.of_sm (.upd hp)) (rs.sm (.upd hp)) (rep_new_lst rs hp rd)⟩
  · exact o1.elim⟩
end
theorem loc_new {K : PySem.W.Frag} {mg : Str → Option Value} {μ : Mu} {H : Hp} {S : Sto} {p : Addr} {ho : HO} {o : O} (rs : RelS K mg μ H S) (hp : H p = none) (r : RepO K mg (μ.push p) (upd H p ho) o p) :
    Step μ H (μ.push p) (upd H p ho) ∧ RelS K mg (μ.push p) (upd H p ho) (S ++ [o]) ∧ Rep K mg (μ.push p) (upd H p ho) (.loc S.length) (.ref p) := by
  refine ⟨.new_loc hp, rs.push hp r, ?_⟩
  unfold Rep
  exact ⟨p, rfl, by rw [rs.len]; simp [Mu.push]⟩
theorem lst_new {K : PySem.W.Frag} {mg : Str → Option Value} {μ : Mu} {H : Hp} {S : Sto} {p : Addr} {ds : List D} {vs : List V} (rs : RelS K mg μ H S) (hp : H p = none) (r : RepAll K mg μ H ds vs) :
    Step μ H (μ.push p) (upd H p (.lst vs)) ∧ RelS K mg (μ.push p) (upd H p (.lst vs)) (S ++ [.lst ds]) ∧ Rep K mg (μ.push p) (upd H p (.lst vs)) (.loc S.length) (.ref p) :=
  loc_new rs hp ⟨vs, upd_same, RepAll.step (.new_loc hp) _ _ r⟩
section
variable {X : Cx} {W : WX} {pos : Pos} {es : List Expr} {r : MA}
theorem sE_lstM (h : PA X es (tAs X W r)) : PE X (.List es pos) (tE X W (eLstM r)) := pe_to (pe_lst h) fun σ H Q ⟨env, S, μ, rl, o⟩ => ⟨env, S, μ, rl, (Out.bind o).mono fun xs H1 ⟨μ1, S1, ds, st, rs, rd, o1⟩ => by
  split at o1
  · rename_i hz
    refine ⟨by rw [← rd.length]; exact line_big hz, fun p hp => ?_⟩
    obtain ⟨a, b, c⟩ := lst_new rs hp rd
    exact o1 _ _ _ a b c
  · exact o1.elim⟩
/-- {} -/
def eDct (t : Bool) : ME := fun _ S => .ok (.loc S.length) (S ++ [.dct t []])
theorem sE_dctK : PE X (.Dict [] [] pos) (tE X W (eDct false)) := pe_to pe_dnewK fun σ H Q ⟨env, S, μ, rl, o⟩ p hp => by
  obtain ⟨a, b, c⟩ := loc_new (o := .dct false []) (ho := .dK []) rl.sto hp ⟨[], [], ⟨upd_same, rfl⟩, .nil⟩
  exact o _ _ _ a b c
theorem sE_dctT : PE X (.Dict [] [] pos) (tE X W (eDct true)) := pe_to pe_dnewT fun σ H Q ⟨env, S, μ, rl, o⟩ p hp => by
  obtain ⟨a, b, c⟩ := loc_new (o := .dct true []) (ho := .dT []) rl.sto hp ⟨[], [], ⟨upd_same, rfl⟩, .nil⟩
  exact o _ _ _ a b c
end
end DL

set_option Elab.async false
set_option linter.all false
set_option maxRecDepth 100000
/-! DL6: statements, targets, loops. -/
namespace DL
open PySem PySem.Spec PyProof.Rows L2
inductive RS where
  | next (env : En) (S : Sto) | brk (env : En) (S : Sto) | cont (env : En) (S : Sto) | ret (d : D) (S : Sto) | exc (e : XV) (env : En) (S : Sto) | stuck
abbrev MS := En → Sto → RS
abbrev MG := D → En → Sto → Option (En × Sto)
def Res.rs {α : Type} (env : En) : Res α → (α → Sto → RS) → RS
  | .ok a S, k => k a S
  | .exc e S, _ => .exc e env S
  | .stuck, _ => .stuck
def RS.andThen : RS → (En → Sto → RS) → RS
  | .next env S, k => k env S
  | .brk env S, _ => .brk env S
  | .cont env S, _ => .cont env S
  | .ret d S, _ => .ret d S
  | .exc e env S, _ => .exc e env S
  | .stuck, _ => .stuck
section
variable (K : PySem.W.Frag) (mg : Str → Option Value)
def OutS (W : WX) (μ : Mu) (H : Hp) (D : Ends) : RS → Prop
  | .next env S => ∀ μ' H' σ', Step μ H μ' H' → RelE K mg μ' H' env σ' → RelS K mg μ' H' S → D.nx σ' H'
  | .brk env S => ∀ μ' H' σ', Step μ H μ' H' → RelE K mg μ' H' env σ' → RelS K mg μ' H' S → D.bk σ' H'
  | .cont env S => ∀ μ' H' σ', Step μ H μ' H' → RelE K mg μ' H' env σ' → RelS K mg μ' H' S → D.ct σ' H'
  | .ret d S => ∀ μ' H' v, Step μ H μ' H' → RelS K mg μ' H' S → Rep K mg μ' H' d v → D.rt v H'
  | .exc e env S => ∀ μ' H' σ' cls dd, Step μ H μ' H' → RelE K mg μ' H' env σ' → RelS K mg μ' H' S → RepX K mg μ' H' e cls dd → W cls dd σ' H'
  | .stuck => False
end
section
variable {K : PySem.W.Frag} {mg : Str → Option Value} {α β : Type} {W : WX} {σ : L2.St} {μ μ1 : Mu} {H H1 : Hp} {R : Mu → Hp → α → β → Prop} {D D' : Ends} {r : RS} {env : En}
theorem OutS.of_step (st : Step μ H μ1 H1) (o : OutS K mg W μ H D r) : OutS K mg W μ1 H1 D r := by
  cases r with
  | next e S => exact fun μ' H' σ' s => o μ' H' σ' (st.trans s)
  | brk e S => exact fun μ' H' σ' s => o μ' H' σ' (st.trans s)
  | cont e S => exact fun μ' H' σ' s => o μ' H' σ' (st.trans s)
  | ret e S => exact fun μ' H' σ' s => o μ' H' σ' (st.trans s)
  | exc e v S => exact fun μ' H' σ' c d s => o μ' H' σ' c d (st.trans s)
  | stuck => exact o
theorem OutS.mono (o : OutS K mg W μ H D r) (h1 : ∀ σ H, D.nx σ H → D'.nx σ H) (h2 : ∀ σ H, D.bk σ H → D'.bk σ H) (h3 : ∀ σ H, D.ct σ H → D'.ct σ H) (h4 : ∀ v H, D.rt v H → D'.rt v H) : OutS K mg W μ H D' r := by
  cases r with
  | next e S => exact fun μ' H' σ' s t u => h1 _ _ (o μ' H' σ' s t u)
  | brk e S => exact fun μ' H' σ' s t u => h2 _ _ (o μ' H' σ' s t u)
  | cont e S => exact fun μ' H' σ' s t u => h3 _ _ (o μ' H' σ' s t u)
  | ret e S => exact fun μ' H' σ' s t u => h4 _ _ (o μ' H' σ' s t u)
  | exc e v S => exact o
  | stuck => exact o
theorem OutS.andThen {k : En → Sto → RS} (o : OutS K mg W μ H D (r.andThen k)) :
    OutS K mg W μ H { D with nx := fun σ1 H1 => ∃ μ1 env1 S1, Step μ H μ1 H1 ∧ RelE K mg μ1 H1 env1 σ1 ∧ RelS K mg μ1 H1 S1 ∧ OutS K mg W μ1 H1 D (k env1 S1) } r := by
  cases r with
  | next e S => exact fun μ' H' σ' s t u => ⟨μ', e, S, s, t, u, OutS.of_step s o⟩
  | brk e S => exact o
  | cont e S => exact o
  | ret e S => exact o
  | exc e v S => exact o
  | stuck => exact o
theorem OutS.rs {x : Res α} {k : α → Sto → RS} (re : RelE K mg μ H env σ) (o : OutS K mg W μ H D (x.rs env k)) :
    Out K mg W σ μ H R (fun b H1 => ∃ μ1 S1 a, Step μ H μ1 H1 ∧ RelS K mg μ1 H1 S1 ∧ R μ1 H1 a b ∧ OutS K mg W μ1 H1 D (k a S1)) x := by
  cases x with
  | ok a S => exact fun μ' H' b s t u => ⟨μ', S, a, s, t, u, OutS.of_step s o⟩
  | exc e S => exact fun μ' H' c d s t u => o μ' H' σ c d s (re.step s) t u
  | stuck => exact o
end
def tS (X : Cx) (W : WX) (m : MS) : TS := fun D σ H => ∃ env S μ, Rl X.K X.mg μ H env σ S ∧ OutS X.K X.mg W μ H D (m env S)
def OutO (K : PySem.W.Frag) (mg : Str → Option Value) (μ : Mu) (H : Hp) (Q : L2.St → Hp → Prop) : Option (En × Sto) → Prop
  | some (e, S) => ∀ μ' H' σ', Step μ H μ' H' → RelE K mg μ' H' e σ' → RelS K mg μ' H' S → Q σ' H'
  | none => False
theorem OutO.of_step {K : PySem.W.Frag} {mg : Str → Option Value} {μ μ1 : Mu} {H H1 : Hp} {Q : L2.St → Hp → Prop} {r : Option (En × Sto)} (st : Step μ H μ1 H1) (o : OutO K mg μ H Q r) : OutO K mg μ1 H1 Q r := by
  cases r with
  | none => exact o
  | some p => exact fun μ' H' σ' s => o μ' H' σ' (st.trans s)
def tG (X : Cx) (g : MG) : TG := fun v σ H Q => ∃ env S μ d, Rl X.K X.mg μ H env σ S ∧ Rep X.K X.mg μ H d v ∧ OutO X.K X.mg μ H Q (g d env S)
abbrev MGs := List D → En → Sto → Option (En × Sto)
def tGs (X : Cx) (g : MGs) : TGs := fun vs σ H Q => ∃ env S μ ds, Rl X.K X.mg μ H env σ S ∧ RepAll X.K X.mg μ H ds vs ∧ OutO X.K X.mg μ H Q (g ds env S)
theorem ps_to {X : Cx} {s : Stmt} {t t' : TS} (h : PS X s t) (i : ∀ D σ H, t' D σ H → t D σ H) : PS X s t' := ⟨fun pins s σ H D I w => h.run pins s σ H D I (i D σ H w)⟩
theorem pss_to {X : Cx} {s : List Stmt} {t t' : TS} (h : PSs X s t) (i : ∀ D σ H, t' D σ H → t D σ H) : PSs X s t' := ⟨fun pins s σ H D I w => h.run pins s σ H D I (i D σ H w)⟩
theorem pg_to {X : Cx} {e : Expr} {t t' : TG} (h : PG X e t) (i : ∀ v σ H Q, t' v σ H Q → t v σ H Q) : PG X e t' := ⟨fun pins s σ H v u Q I r w => h.run pins s σ H v u Q I r (i v σ H Q w)⟩
theorem pgs_to {X : Cx} {e : List Expr} {t t' : TGs} (h : PGs X e t) (i : ∀ v σ H Q, t' v σ H Q → t v σ H Q) : PGs X e t' := ⟨fun pins s σ H v u Q I r w => h.run pins s σ H v u Q I r (i v σ H Q w)⟩

/-! ### blocks -/
def sNil : MS := fun env S => .next env S
def sSeq (a b : MS) : MS := fun env S => (a env S).andThen b
section
variable {X : Cx} {W : WX} {st : Stmt} {rest body : List Stmt} {a b : MS} {e c : Expr} {pos : Pos} {m : ME} {tc : MT}
theorem sSs_nil : PSs X [] (tS X W sNil) := pss_to pss_nil fun D σ H ⟨env, S, μ, rl, o⟩ => o μ H σ .refl rl.env rl.sto
theorem sSs_cons (h1 : PS X st (tS X W a)) (h2 : PSs X rest (tS X W b)) : PSs X (st :: rest) (tS X W (sSeq a b)) :=
  pss_to (pss_cons h1 h2) fun D σ H ⟨env, S, μ, rl, o⟩ => ⟨env, S, μ, rl, (OutS.andThen o).mono (fun σ1 H1 ⟨μ1, env1, S1, st, re, rs, o1⟩ => ⟨env1, S1, μ1, ⟨re, rs⟩, o1⟩) (fun _ _ h => h) (fun _ _ h => h) (fun _ _ h => h)⟩
theorem sSs_one (h1 : PS X st (tS X W a)) : PSs X [st] (tS X W a) := pss_to (pss_one h1) fun _ _ _ h => h
def sExpr (m : ME) : MS := fun env S => (m env S).rs env fun _ S => .next env S
theorem sS_expr (he : PE X e (tE X W m)) (hs : swapsWith e none pos.line X.env = pure false := by rfl) : PS X (.Expr e pos) (tS X W (sExpr m)) :=
  ps_to (ps_expr he hs) fun D σ H ⟨env, S, μ, rl, o⟩ => ⟨env, S, μ, rl, (OutS.rs rl.env o).mono fun x H1 ⟨μ1, S1, d, st, rs, r, o1⟩ => o1 μ1 H1 σ .refl (rl.env.step st) rs⟩
def sRet (m : ME) : MS := fun env S => (m env S).rs env fun d S => .ret d S
theorem sS_ret (he : PE X e (tE X W m)) : PS X (.Return (some e) pos) (tS X W (sRet m)) :=
  ps_to (ps_ret he) fun D σ H ⟨env, S, μ, rl, o⟩ => ⟨env, S, μ, rl, (OutS.rs rl.env o).mono fun x H1 ⟨μ1, S1, d, st, rs, r, o1⟩ => o1 μ1 H1 x .refl rs r⟩
def sRetN : MS := fun _ S => .ret .none S
theorem sS_retN : PS X (.Return none pos) (tS X W sRetN) := ps_to ps_retN fun D σ H ⟨env, S, μ, rl, o⟩ => o μ H .non .refl rl.sto rep_none
theorem sS_pass : PS X (.Pass pos) (tS X W sNil) := ps_to ps_pass fun D σ H ⟨env, S, μ, rl, o⟩ => o μ H σ .refl rl.env rl.sto
theorem sS_doc {x j pos'} : PS X (.Expr (.Constant (.str x) j pos) pos') (tS X W sNil) := ps_to ps_doc fun D σ H ⟨env, S, μ, rl, o⟩ => o μ H σ .refl rl.env rl.sto
def sBreak : MS := fun env S => .brk env S
def sCont : MS := fun env S => .cont env S
theorem sS_break : PS X (.Break pos) (tS X W sBreak) := ps_to ps_break fun D σ H ⟨env, S, μ, rl, o⟩ => o μ H σ .refl rl.env rl.sto
theorem sS_continue : PS X (.Continue pos) (tS X W sCont) := ps_to ps_continue fun D σ H ⟨env, S, μ, rl, o⟩ => o μ H σ .refl rl.env rl.sto
/-- never come to -/
def sStuck : MS := fun _ _ => .stuck
theorem sS_never : PS X st (tS X W sStuck) := ⟨fun _ _ _ _ _ _ ⟨_, _, _, _, o⟩ => o.elim⟩
def eStuck : ME := fun _ _ => .stuck
theorem sE_never : PE X e (tE X W eStuck) := ⟨fun _ _ _ _ _ _ ⟨_, _, _, _, o⟩ => o.elim⟩
def sIf (tc : MT) (a b : MS) : MS := fun env S => (tc env S).rs env fun c S => if c = true then a env S else b env S
theorem sS_if {ba bb : List Stmt} (hc : PT X c (tT X W tc)) (ha : PSs X ba (tS X W a)) (hb : PSs X bb (tS X W b)) : PS X (.If c ba bb pos) (tS X W (sIf tc a b)) :=
  ps_to (ps_if hc ha hb) fun D σ H ⟨env, S, μ, rl, o⟩ => ⟨env, S, μ, rl, (OutS.rs rl.env o).mono fun x H1 ⟨μ1, S1, d, st, rs, r, o1⟩ => by
    subst r
    cases x with
    | true => exact ⟨env, S1, μ1, ⟨rl.env.step st, rs⟩, o1⟩
    | false => exact ⟨env, S1, μ1, ⟨rl.env.step st, rs⟩, o1⟩⟩
/-! ### targets -/
def gV (i : Nat) : MG := fun d env S => some (env.set i (some d), S)
theorem sG_name {i : Nat} {x : Str} (hN : X.N.Nodup) (hi : X.N[i]? = some x) (hx : Loc X.env.scope x) (hf : X.fn x = true ∨ X.env.scope.names.lookup x = some .local := by first | exact .inl rfl | exact .inr rfl | assumption) : PG X (.Name x pos) (tG X (gV i)) :=
  pg_to (pg_name hN hi hx hf) fun v σ H Q ⟨env, S, μ, d, rl, r, o⟩ => o μ H _ .refl (rl.env.set r) rl.sto
def gsNil : MGs := fun ds env S => match ds with
  | [] => some (env, S)
  | _ => none
def gsCons (g : MG) (gs : MGs) : MGs := fun ds env S => match ds with
  | d :: ds => (g d env S).bind fun p => gs ds p.1 p.2
  | [] => none
theorem sGs_nil : PGs X [] (tGs X gsNil) := pgs_to pgs_nil fun vs σ H Q ⟨env, S, μ, ds, rl, r, o⟩ => by
  cases ds with
  | nil => unfold RepAll at r; exact ⟨r, o μ H σ .refl rl.env rl.sto⟩
  | cons a b => exact o.elim
theorem sGs_cons {es : List Expr} {g : MG} {gs : MGs} (h1 : PG X e (tG X g)) (h2 : PGs X es (tGs X gs))
    (hs : (assignEach (e :: es) X.env).map (·.2) = assign e X.env :: (assignEach es X.env).map (·.2) := by rfl) : PGs X (e :: es) (tGs X (gsCons g gs)) :=
  pgs_to (pgs_cons h1 h2 hs) fun vs σ H Q ⟨env, S, μ, ds, rl, r, o⟩ => by
    cases ds with
    | nil => exact o.elim
    | cons d ds =>
      unfold RepAll at r
      obtain ⟨v, q, rfl, r1, r2⟩ := r
      refine ⟨v, q, rfl, env, S, μ, d, rl, r1, ?_⟩
      have o : OutO X.K X.mg μ H Q ((g d env S).bind fun p => gs ds p.1 p.2) := o
      cases hq : g d env S with
      | none => rw [hq] at o; exact o.elim
      | some p =>
        rw [hq] at o
        exact fun μ' H' σ' s t u => ⟨p.1, p.2, μ', ds, ⟨t, u⟩, RepAll.step s _ _ r2, OutO.of_step s o⟩
def gTupD (n : Nat) (gs : MGs) : MG := fun d env S => match vt d with
  | .tup ds => if ds.length = n then gs ds env S else none
  | _ => none
theorem sG_tup {es : List Expr} {k : Nat} {n : Nat} {gs : MGs} (hc : X.calm = true) (h : PGs X es (tGs X gs))
    (hn : (assignEach es X.env).length = n := by rfl) (hst : (assignEach es X.env).findIdx? (·.1) = none := by rfl) : PG X (.Tuple es k pos) (tG X (gTupD n gs)) :=
  pg_to (pg_tup hc h hn hst) fun v σ H Q ⟨env, S, μ, d, rl, r, o⟩ => by
    unfold gTupD at o
    split at o
    · rename_i ds ev
      by_cases hl : ds.length = n
      · simp only [hl, if_true] at o
        have w := r.wv.vt
        rw [ev] at w
        obtain ⟨a, vs, rfl, h1, h2, _⟩ := w
        exact ⟨a, vs, rfl, .inl h1, by rw [← h2.length]; exact hl, env, S, μ, ds, rl, h2, o⟩
      · simp only [hl, if_false] at o; exact o.elim
    · exact o.elim
/-! ### assignments -/
def ofG : Option (En × Sto) → RS
  | some p => .next p.1 p.2
  | none => .stuck
theorem ofG_out {K : PySem.W.Frag} {mg : Str → Option Value} {μ : Mu} {H : Hp} {D : Ends} {r : Option (En × Sto)} (o : OutS K mg W μ H D (ofG r)) : OutO K mg μ H D.nx r := by
  cases r with
  | none => exact o
  | some p => exact o
def sAsg (m : ME) (g : MG) : MS := fun env S => (m env S).rs env fun d S => ofG (g d env S)
theorem sS_asg {tg : Expr} {g : MG} (he : PE X e (tE X W m)) (hg : PG X tg (tG X g)) (hs : swapsWithSole [tg] e pos.line X.env = pure false := by rfl) (hw : swappedStores [tg] e X.env = pure none := by rfl)
    (h1 : (assignEach [tg] X.env).map (·.2) = [assign tg X.env] := by rfl) : PS X (.Assign [tg] e pos) (tS X W (sAsg m g)) :=
  ps_to (ps_asg he hg hs hw h1) fun D σ H ⟨env, S, μ, rl, o⟩ => ⟨env, S, μ, rl, (OutS.rs rl.env o).mono fun x H1 ⟨μ1, S1, d, st, rs, r, o1⟩ => ⟨env, S1, μ1, d, ⟨rl.env.step st, rs⟩, r, ofG_out o1⟩⟩
/-- a, b = x, y, both plain local names -/
def sPar (i j : Nat) (r : MA) : MS := fun env S => (r env S).rs env fun ds S => match ds with
  | [a, b] => .next ((env.set i (some a)).set j (some b)) S
  | _ => .stuck
theorem sS_par {i j : Nat} {x y : Str} {e1 e2 : Expr} {r : MA} {px py pt : Pos} {kt k2 pt2} (hc : X.calm = true) (hN : X.N.Nodup) (hi : X.N[i]? = some x) (hj : X.N[j]? = some y) (hij : i ≠ j)
    (hx : X.env.scope.names.lookup x = some .local) (hy : X.env.scope.names.lookup y = some .local) (ha : PA X [e1, e2] (tAs X W r))
    (hw : swappedStores [.Tuple [.Name x px, .Name y py] kt pt] (.Tuple [e1, e2] k2 pt2) X.env = pure (some [x, y]) := by rfl)
    (hs : swapsWithSole [.Tuple [.Name x px, .Name y py] kt pt] (.Tuple [e1, e2] k2 pt2) pos.line X.env = pure false := by rfl) :
    PS X (.Assign [.Tuple [.Name x px, .Name y py] kt pt] (.Tuple [e1, e2] k2 pt2) pos) (tS X W (sPar i j r)) :=
  ps_to (ps_par hc hN hi hj hij hx hy ha hw hs) fun D σ H ⟨env, S, μ, rl, o⟩ => ⟨env, S, μ, rl, (OutS.rs rl.env o).mono fun vs H1 ⟨μ1, S1, ds, st, rs, r, o1⟩ => by
    match ds, o1 with
    | [a, b], o1 =>
      unfold RepAll at r
      obtain ⟨v, q, rfl, r1, r2⟩ := r
      unfold RepAll at r2
      obtain ⟨w, q, rfl, r2, r3⟩ := r2
      unfold RepAll at r3
      subst r3
      exact ⟨v, w, rfl, o1 μ1 H1 _ .refl (((rl.env.step st).set r1).set r2) rs⟩⟩
def sSet (i : Nat) (m : ME) : MS := fun env S => (m env S).rs env fun d S => .next (env.set i (some d)) S
theorem sS_set {i : Nat} {x : Str} {pos' : Pos} (hN : X.N.Nodup) (hi : X.N[i]? = some x) (hx : Loc X.env.scope x) (he : PE X e (tE X W m)) (hs : swapsWith e (some (.Name x pos')) pos.line X.env = pure false := by rfl) (hf : X.fn x = true ∨ X.env.scope.names.lookup x = some .local := by first | exact .inl rfl | exact .inr rfl | assumption) :
    PS X (.Assign [.Name x pos'] e pos) (tS X W (sSet i m)) :=
  ps_to (ps_set hN hi hx he hs hf) fun D σ H ⟨env, S, μ, rl, o⟩ => ⟨env, S, μ, rl, (OutS.rs rl.env o).mono fun x H1 ⟨μ1, S1, d, st, rs, r, o1⟩ => o1 μ1 H1 _ .refl ((rl.env.step st).set r) rs⟩
/-- x op= e -/
def sAug (i : Nat) (f : Sto → D → D → Option D) (m : ME) : MS := fun env S => match env[i]? with
  | some (some a) => (m env S).rs env fun b S => match f S a b with
    | some d => .next (env.set i (some d)) S
    | none => .stuck
  | _ => .stuck
abbrev tIpD (K : PySem.W.Frag) (mg : Str → Option Value) (f : Sto → D → D → Option D) : TIp := rS K mg f
theorem sS_aug {i : Nat} {x : Str} {op : Operator} {f : Sto → D → D → Option D} {pos' : Pos} (hN : X.N.Nodup) (hi : X.N[i]? = some x) (hx : Loc X.env.scope x) (he : PE X e (tE X W m)) (ho : PIp X op (tIpD X.K X.mg f)) (hf : X.fn x = true ∨ X.env.scope.names.lookup x = some .local := by first | exact .inl rfl | exact .inr rfl | assumption) :
    PS X (.AugAssign (.Name x pos') op e pos) (tS X W (sAug i f m)) :=
  ps_to (ps_aug hN hi hx he ho hf) fun D σ H ⟨env, S, μ, rl, o⟩ => by
    unfold sAug at o
    split at o
    · rename_i a ea
      obtain ⟨v, h1, h2⟩ := rl.env.at_ i a ea
      refine ⟨v, h1, env, S, μ, rl, (OutS.rs rl.env o).mono fun y H1 ⟨μ1, S1, b, st, rs, rb, o1⟩ => ?_⟩
      split at o1
      · rename_i d ed
        exact ⟨μ1, S1, a, b, d, rs, Rep.step st _ _ h2, rb, ed, fun H' z sm r => o1 μ1 H' _ (.of_sm sm) (((rl.env.step st).step (.of_sm sm)).set r) (rs.sm sm)⟩
      · exact o1.elim
    · exact o.elim
theorem pip_to {op : Operator} {t t' : TIp} (h : PIp X op t) (i : ∀ x y H Q, t' x y H Q → t x y H Q) : PIp X op t' := fun pins s σ H x y v u Q I r1 r2 w => h pins s σ H x y v u Q I r1 r2 (i _ _ _ _ w)
theorem ipI_D {op : Operator} {g : Int → Int → Int} (h : PIp X op (ipI g)) : PIp X op (tIpD X.K X.mg (lv (oI g))) := pip_to h fun x y H Q ⟨μ, S, a, b, d, rs, ra, rb, e, q⟩ => by
  have ra := rs.view ra
  have rb := rs.view rb
  unfold lv oI at e
  split at e
  · rename_i i j e1 e2
    rw [e1] at ra
    rw [e2] at rb
    cases e
    exact ⟨_, _, ra.int, rb.int, q H _ .rfl (rep_int _)⟩
  · cases e
theorem i_add : PIp X .Add (tIpD X.K X.mg (lv (oI fun i j => i + j))) := ipI_D ip_add
theorem i_sub : PIp X .Sub (tIpD X.K X.mg (lv (oI fun i j => i - j))) := ipI_D ip_sub
/-! ### while -/
def sWhile (c : MT) (b : MS) : Nat → MS
  | 0 => fun _ _ => .stuck
  | n + 1 => fun env S => (c env S).rs env fun k S => if k = true then (match b env S with
    | .next env S => sWhile c b n env S
    | .cont env S => sWhile c b n env S
    | .brk env S => .next env S
    | .ret d S => .ret d S
    | .exc e env S => .exc e env S
    | .stuck => .stuck) else .next env S
theorem sS_while (hp : PassesOwn (model X.prog X.w) X.A X.env X.xe) (n : Nat) (hc : PT X c (tT X W tc)) (hb : PSs X body (tS X W b)) : PS X (.While c body [] pos) (tS X W (sWhile tc b n)) :=
  ps_to (ps_while hp hc hb) fun D σ H ⟨env, S, μ, rl, o⟩ => by
    refine ⟨fun n σ H => ∃ env S μ, Rl X.K X.mg μ H env σ S ∧ OutS X.K X.mg W μ H D (sWhile tc b n env S), ⟨n, env, S, μ, rl, o⟩, ?_⟩
    rintro n σ H ⟨env, S, μ, rl, o⟩
    cases n with
    | zero => exact o.elim
    | succ n =>
      unfold sWhile at o
      refine ⟨env, S, μ, rl, (OutS.rs rl.env o).mono fun k H1 ⟨μ1, S1, k', st, rs, r, o1⟩ => ?_⟩
      subst r
      cases k with
      | false => exact o1 μ1 H1 σ .refl (rl.env.step st) rs
      | true =>
        refine ⟨fun σ H => ∃ env S μ, Rl X.K X.mg μ H env σ S ∧ OutS X.K X.mg W μ H D (sWhile tc b n env S), fun σ' H' w => ⟨n, Nat.lt_succ_self n, w⟩, env, S1, μ1, ⟨rl.env.step st, rs⟩, ?_⟩
        simp only [if_true] at o1
        cases hb : b env S1 with
        | next e S => rw [hb] at o1; exact fun μ' H' σ' s t u => ⟨e, S, μ', ⟨t, u⟩, OutS.of_step s o1⟩
        | cont e S => rw [hb] at o1; exact fun μ' H' σ' s t u => ⟨e, S, μ', ⟨t, u⟩, OutS.of_step s o1⟩
        | brk e S => rw [hb] at o1; exact o1
        | ret d S => rw [hb] at o1; exact o1
        | exc e v S => rw [hb] at o1; exact o1
        | stuck => rw [hb] at o1; exact o1
end
end DL

set_option Elab.async false
set_option linter.all false
set_option maxRecDepth 100000
/-! DL7: what is walked; for. -/
namespace PySem
open PySem PySem.Sem
set_option maxHeartbeats 1000000 in
theorem dl_enumerate_newB {v : Value} {o : Obj} {H : Heap → Prop} (B : Begins v o H) :
    Meets (Builtin.«enumerate.__new__» ⟨[.type "enumerate", v], []⟩) (fun _ R s => H s.heap ∧
      R (.ok (.ret (.ref (s.heap.push o).objs.size))) { s with heap := (s.heap.push o).push { cls := .type "enumerate", data := .fields #[.none, .bool false, .ref s.heap.objs.size, rawInt 0, .none, .none] } }) :=
  .of_wp fun prog w A R s h => by
    obtain ⟨hp, g, d, tk, os⟩ := s; obtain ⟨h1, h⟩ := h
    have hsub := sub_enumerate
    have q1 : ∀ {A' : Around} {E : Value → Shared → Prop} {Q : Value → Shared → Prop}, Q (.ref hp.objs.size) ⟨hp.push o, g, d, tk, os⟩ → wpAny (model prog w) A' (pyIter v) Q E ⟨hp, g, d, tk, os⟩ :=
      fun q => B.iter prog w _ _ ⟨hp, g, d, tk, os⟩ _ h1 q
    wp_walk using q1
    refine wpAny_stack_any fun st => wpAny_pure ?_
    split
    · rename_i c _ _ _ _ _
      cases (c == Value.type "enumerate")
      · wp_walk using q1
        exact ⟨_, rfl, h⟩
      · wp_walk using q1
        exact ⟨_, rfl, h⟩
    · wp_walk using q1
      exact ⟨_, rfl, h⟩
theorem dl_enum_begins {prog : Program} {w : World} {A : Around} {E : Value → Shared → Prop} {s : Shared} {v : Value} {o : Obj} {H : Heap → Prop} {Q : Value → Shared → Prop} (B : Begins v o H) (h1 : H s.heap)
    (h : ∀ h', IsEnum h' (s.heap.objs.size + 1) s.heap.objs.size 0 .none → h'.get? s.heap.objs.size = some o → h'.objs.size = s.heap.objs.size + 2 →
      (∀ b o, s.heap.get? b = some o → h'.get? b = some o) → Q (.ref (s.heap.objs.size + 1)) { s with heap := h' }) :
    wpAny (model prog w) A (call (.type "enumerate") [v]) Q E s := by
  refine callType_new F.called_enumerate (by decide) (F.typeCall_enumerate_1 _) (F.newCall_enumerate_1 _) (fun obj => F.args_object_init_2 obj _) F.entry_enumerate_new
    (dl_enumerate_newB B) ⟨h1, ?_⟩
  have hz : (s.heap.push o).objs.size = s.heap.objs.size + 1 := Heap.size_push ..
  show _ ∧ _
  rw [hz]
  have he : IsEnum ((s.heap.push o).push { cls := .type "enumerate", data := .fields #[.none, .bool false, .ref s.heap.objs.size, rawInt 0, .none, .none] }) (s.heap.objs.size + 1) s.heap.objs.size 0 .none := by
    have := Heap.get?_push_size (s.heap.push o) (o := { cls := .type "enumerate", data := .fields #[.none, .bool false, .ref s.heap.objs.size, rawInt 0, .none, .none] }) rfl
    rw [hz] at this; exact this
  refine ⟨⟨_, he, rfl⟩, h _ he (Heap.get?_push_of_some _ (Heap.get?_push_size _ B.free)) (by rw [Heap.size_push, hz]) fun b o x => Heap.get?_push_of_some _ (Heap.get?_push_of_some _ x)⟩
end PySem
namespace DL
open PySem PySem.Spec PyProof.Rows L2
/-! ### enumerate(tuple) -/
theorem rd_ne {H : Hp} {a b : Addr} {u : HO} (h : Rd H a u) (n : H b = none) : a ≠ b := fun z => by
  subst z
  rcases h with h | ⟨o, h⟩ <;> (rw [n] at h; cases h)
def IteT (a : Addr) : It :=
  ⟨fun i H => ∃ (xs : List V) (x : V), Rd H a (.tup xs) ∧ xs[i]? = some x, fun i H v H' => ∃ T x, v = .ref T ∧ H T = none ∧ H' = upd H T (.tup [.int (i : Nat), x]) ∧ ∀ xs, Rd H a (.tup xs) → xs[i]? = some x, fun i H => ∃ xs : List V, Rd H a (.tup xs) ∧ xs.length = i⟩
theorem turn_enumT {P : Program} {w : World} {K : PySem.W.Frag} {elts : List Expr} {kk : Nat} {tpos : Pos} (a e it : Addr) :
    Turn P w K (.Tuple elts kk tpos) (IteT a) [e, it] e (fun i h => (∃ old, IsEnum h e it ((i : Nat) : Int) old) ∧ h.IsTupleIter it a i ∧ e ≠ it) where
  mem := by simp
  obj := fun i h st b hb => by
    obtain ⟨⟨old, he⟩, ⟨o, ho, hc, hd⟩, _⟩ := st
    have e' : b = e ∨ b = it := by simpa using hb
    rcases e' with z | z
    · rw [z]; exact ⟨_, he, fun v q => nomatch q⟩
    · rw [z]; exact ⟨o, ho, fun v q => by rw [hd] at q; cases q⟩
  keep := fun i h h' st k => let ⟨⟨old, he⟩, hi, hne⟩ := st; ⟨⟨old, k e (by simp) _ he⟩, hi.at fun o q => k it (by simp) o q, hne⟩
  item := by
    intro X hP hw hK hc i pins s σ H E I hf st hg
    subst hP hw hK
    obtain ⟨⟨old, he⟩, hit, hne⟩ := st
    obtain ⟨xs, x, hq, hx⟩ := hg
    obtain ⟨its, rv, p, hz⟩ := I.tuple (.inl hq)
    obtain ⟨u, hu, ru⟩ := rv.get hx
    have hel : e < s.heap.objs.size := Heap.lt_size he
    have hil : it < s.heap.objs.size := by obtain ⟨_, q, _⟩ := hit; exact Heap.lt_size q
    have hai : a ≠ it := rd_ne hq (hf it (by simp)).1
    have hae : a ≠ e := rd_ne hq (hf e (by simp)).1
    have D := PySem.Draws.tuple (prog := X.prog) (w := X.w) (A := X.A.in1) (I.ok.hd hc) it a hai its.toArray
    have hlt : i < its.toArray.size := by
      have := (List.getElem?_eq_some_iff.mp hu).1
      simpa using this
    refine PySem.wpAny_pyNext_enum_itemD D he ⟨hit, p⟩ hlt hne (by simp [hne, hae.symm]) fun x' h' tk hx' ho hit' hT hsz hk => ?_
    have ex : x' = u := by
      have q : its.toArray[i]? = some x' := hx'
      have q2 : its.toArray[i]? = some u := by simpa using hu
      rw [q] at q2; exact Option.some.inj q2
    subst ex
    refine ⟨_, rfl, wpAny_letOwnedTupleGo_enum (s := { s with heap := h', toks := tk + 1 }) ho fun h'' he' sb => ?_⟩
    have hT2 : h''.get? s.heap.objs.size = some { cls := .type "tuple", data := .seq #[.int i tk, x'] } := (sb.2 _ (Nat.ne_of_gt hel)).trans hT
    have new : ObjOk X.prog X.w (upd H s.heap.objs.size (.tup [.int (i : Nat), x])) h'' s.heap.objs.size (.tup [.int (i : Nat), x]) :=
      ⟨by show 2 ≤ sizeLine; decide, [.int i tk, x'], .cons ⟨_, rfl⟩ (.cons ru .nil), ⟨_, hT2, rfl, _, rfl⟩⟩
    have I1 : L2.Inv X pins σ (upd H s.heap.objs.size (.tup [.int (i : Nat), x])) { s with heap := h'', toks := tk + 1 } :=
      I.turnedNew (ch := [e, it]) (fun b ob hb q => (sb.2 b (fun z => hb (by simp [z]))).trans (hk b ob (fun z => hb (by simp [z])) (fun z => hb (by simp [z])) q)) hf (Nat.le_refl _) new
    refine ⟨.ref s.heap.objs.size, _, I1, rfl, ⟨_, x, rfl, I.hok.fresh (Nat.le_refl _), rfl, fun ys hy => by rw [I.tuple_inj (.inl hy) (.inl hq)]; exact hx⟩, ⟨⟨x', ?_⟩, hit'.1.at fun o q => (sb.2 it (Ne.symm hne)).trans q, hne⟩, fun b hb => ?_⟩
    · have e1 : ((i + 1 : Nat) : Int) = (i : Int) + 1 := by omega
      rw [e1]; exact he'
    · have hb' : b < s.heap.objs.size := by
        have e' : b = e ∨ b = it := by simpa using hb
        rcases e' with z | z
        · rw [z]; exact hel
        · rw [z]; exact hil
      rw [upd_ne (Nat.ne_of_lt hb')]
      exact (hf b hb).1
  done := by
    intro X hP hw hK hc i pins s σ H E I hf st hg
    subst hP hw hK
    obtain ⟨⟨old, he⟩, hit, hne⟩ := st
    obtain ⟨xs, hq, hx⟩ := hg
    obtain ⟨its, rv, p, hz⟩ := I.tuple (.inl hq)
    obtain ⟨f0, f1, f2, f3, f4, f5⟩ := hf it (by simp)
    have hl := rv.length
    have hai : a ≠ it := rd_ne hq (hf it (by simp)).1
    have hsz : its.toArray.size = i := by simp; omega
    have D := PySem.Draws.tuple (prog := X.prog) (w := X.w) (A := X.A.in1) (I.ok.hd hc) it a hai its.toArray
    exact PySem.wpAny_pyNext_enum_endD D he (show _ from ⟨by rw [hsz]; exact hit, p⟩) fun h' eb => ⟨rfl, I.turned (t' := s.toks) (fun b o hb q => eb b o hb q) f0 f1 f3 f4 f5⟩
  self := fun A i s Q E st h => let ⟨⟨_, he⟩, _⟩ := st; wpAny_pyIter_enum he h

/-! ### what is walked -/
inductive ItD where
  | items (ds : List D) | live (l : Nat) | liveE (l : Nat)
abbrev MI := En → Sto → Res ItD
structure WalkD (K : PySem.W.Frag) (mg : Str → Option Value) (μ1 : Mu) (H1 : Hp) (ds : List D) (J : It) : Prop where
  goes : ∀ i μ H, i < ds.length → Stp μ1 H1 μ H → J.go i H
  stops : ∀ μ H, Stp μ1 H1 μ H → J.stop ds.length H
  yields : ∀ i d μ H S x H', ds[i]? = some d → Stp μ1 H1 μ H → RelS K mg μ H S → J.yld i H x H' → Sm H H' ∧ Rep K mg μ H' d x
def WalkOk (K : PySem.W.Frag) (mg : Str → Option Value) (μ1 : Mu) (H1 : Hp) : ItD → It → Prop
  | .items ds, J => WalkD K mg μ1 H1 ds J
  | .live l, J => ∃ a, μ1.l[l]? = some a ∧ J = Itl K a
  | .liveE l, J => ∃ a, μ1.l[l]? = some a ∧ J = Ite K a
def tI (X : Cx) (W : WX) (mi : MI) : TI := fun σ H R => tM X (fun μ H it J => WalkOk X.K X.mg μ H it J) W mi σ H R
theorem pi_to {X : Cx} {tg e : Expr} {t t' : TI} (h : PI X tg e t) (i : ∀ σ H R, t' σ H R → t σ H R) : PI X tg e t' := ⟨fun pins s σ H R I w => h.run pins s σ H R I (i σ H R w)⟩
def signs (z : Str) : List D := z.cps.toList.map fun c => .str ⟨#[c]⟩
def iterD (S : Sto) (d : D) : Option ItD := match vt d with
  | .tup xs => some (.items xs)
  | .lst xs => some (.items xs)
  | .ro xs => some (.items xs)
  | .str z => some (.items (signs z))
  | .loc l => match S[l]? with
    | some (.lst _) => some (.live l)
    | some (.fdc _ kvs) => some (.items (kvs.map (·.1)))
    | _ => none
  | _ => none
def iAny (m : ME) : MI := fun env S => (m env S).bind fun d S => ofO S (iterD S d)
section
variable {K : PySem.W.Frag} {mg : Str → Option Value} {μ : Mu} {H : Hp} {a : Addr} {xs : List D} {vs : List V}
theorem SqL.inj1 {K : PySem.W.Frag} {H : Hp} {a : Addr} {xs ys : List V} (h : H a = some (.lst xs)) (h' : L2.SqL K H a ys) (hk : K.lookup a = none) : xs = ys := by
  rcases h' with (z | ⟨o, z⟩) | ⟨o, _, _, z, _⟩
  · rw [h] at z; cases z; rfl
  · rw [h] at z; cases z
  · rw [hk] at z; cases z
theorem walkD_tup (h : Rd H a (.tup vs)) (n : a ∉ μ) (r : RepAll K mg μ H xs vs) : WalkD K mg μ H xs (Itt K a) where
  goes := fun i μ' H' hi st => ⟨vs, vs[i]'(by rw [← r.length]; exact hi), .inl (rd_step st h n).1, by simp⟩
  stops := fun μ' H' st => ⟨vs, .inl (rd_step st h n).1, by rw [r.length]; exact Nat.le_refl _⟩
  yields := fun i d μ' H' S x H2 e st rs y => by
    obtain ⟨rfl, y⟩ := y
    obtain ⟨v, h1, h2⟩ := r.get e
    have q := y vs (.inl (rd_step st h n).1)
    rw [h1] at q; cases q
    exact ⟨.rfl, Rep.stp st _ _ h2⟩
theorem walkD_lst (h : L2.SqL K H a vs) (hs : ∀ μ' H', Stp μ H μ' H' → L2.SqL K H' a vs) (r : RepAll K mg μ H xs vs) : WalkD K mg μ H xs (Itl K a) where
  goes := fun i μ' H' hi st => ⟨vs, vs[i]'(by rw [← r.length]; exact hi), hs _ _ st, by simp⟩
  stops := fun μ' H' st => ⟨vs, hs _ _ st, by rw [r.length]; exact Nat.le_refl _⟩
  yields := fun i d μ' H' S x H2 e st rs y => by
    obtain ⟨rfl, y⟩ := y
    obtain ⟨v, h1, h2⟩ := r.get e
    have q := y vs (hs _ _ st)
    rw [h1] at q; cases q
    exact ⟨.rfl, Rep.stp st _ _ h2⟩
theorem RelS.ntup {S : Sto} (rs : RelS K mg μ H S) {q : Addr} {us : List V} (e : H q = some (.tup us)) : q ∉ μ := fun z => by
  rcases z with z | z
  · obtain ⟨l, hl, e2⟩ := List.getElem_of_mem z
    have hl2 : l < S.length := by rw [rs.len]; exact hl
    obtain ⟨a', h1, h2⟩ := rs.at_ l _ (List.getElem?_eq_getElem hl2)
    rw [List.getElem?_eq_getElem hl, e2] at h1; cases h1
    generalize S[l] = o at h2
    cases o with
    | lst ds => obtain ⟨vs, h1, h2⟩ := h2; rw [e] at h1; cases h1
    | dct t kvs => cases t <;> (obtain ⟨vs, ks, ⟨q, k⟩, h2⟩ := h2; rw [e] at q; cases q)
    | ins C fs => obtain ⟨Ca, dx, vs, g, h1, h2⟩ := h2; rw [e] at h1; cases h1
    | fdc t kvs => cases t <;> (obtain ⟨vs, ks, ⟨⟨od, q⟩, k⟩, h2⟩ := h2; rw [e] at q; cases q)
  · obtain ⟨u, h1, h2⟩ := rs.hid q z
    rw [e] at h1; cases h1
    rcases h2 with ⟨_, h⟩ | ⟨_, h⟩ | ⟨_, h⟩ <;> cases h
theorem rep_keyD (k : Key) : Rep K mg μ H (keyD k) (kV k) := by
  cases k with
  | inl i => exact rep_int i
  | inr x => exact rep_str x
theorem rep_keysD : ∀ ks : List Key, RepAll K mg μ H (ks.map keyD) (ks.map kV)
  | [] => .nil
  | k :: ks => .cons (rep_keyD k) (rep_keysD ks)
theorem walkD_keys {od : Obj} {ks : List Key} {us : List V} (h : H a = some (.frz od (.dK (ks.zip us)))) (hl : ks.length = us.length) : WalkD K mg μ H (ks.map keyD) (Itk a od (ks.zip us)) where
  goes := fun i μ' H' hi st => ⟨st.kf _ _ _ h, by simp at hi ⊢; omega⟩
  stops := fun μ' H' st => ⟨st.kf _ _ _ h, by simp; omega⟩
  yields := fun i d μ' H' S x H2 e st rs y => by
    obtain ⟨rfl, k, v, h1, rfl⟩ := y
    have hk : ks[i]? = some k := by
      have := congrArg (Option.map (·.1)) h1
      rw [← List.getElem?_map, List.map_fst_zip (by omega)] at this
      simpa using this
    rw [List.getElem?_map, hk] at e
    cases e
    exact ⟨.rfl, rep_keyD k⟩
theorem walkD_keysT {od : Obj} {ks : List (List Key)} {us : List V} (h : H a = some (.frz od (.dT (ks.zip us)))) (hl : ks.length = us.length) : WalkD K mg μ H (ks.map keyTD) (Itkt a od (ks.zip us)) where
  goes := fun i μ' H' hi st => ⟨st.kf _ _ _ h, by simp at hi ⊢; omega⟩
  stops := fun μ' H' st => ⟨st.kf _ _ _ h, by simp; omega⟩
  yields := fun i d μ' H' S x H2 e st rs y => by
    obtain ⟨rfl, k, v, q, h1, rfl, h2⟩ := y
    have hk : ks[i]? = some k := by
      have := congrArg (Option.map (·.1)) h1
      rw [← List.getElem?_map, List.map_fst_zip (by omega)] at this
      simpa using this
    rw [List.getElem?_map, hk] at e
    cases e
    refine ⟨.rfl, ?_⟩
    unfold keyTD Rep
    exact ⟨q, _, rfl, h2, rs.ntup h2, rep_keysD k⟩
theorem keys_len {κ : Type} {g : κ → D} {kvs : List (D × D)} {ks : List κ} {us : List V} (e : kvs.map (·.1) = ks.map g) (r : RepAll K mg μ H (kvs.map (·.2)) us) : ks.length = us.length := by
  have h1 := congrArg List.length e
  have h2 := r.length
  simp at h1 h2
  omega
theorem walkD_str (z : Str) : WalkD K mg μ H (signs z) (Its z) where
  goes := fun i μ' H' hi st => by
    have : (signs z).length = z.cps.size := by simp [signs]
    show i < z.cps.size
    omega
  stops := fun μ' H' st => by
    show z.cps.size ≤ (signs z).length
    simp [signs]
  yields := fun i d μ' H' S x H2 e st rs y => by
    obtain ⟨rfl, c, hc, rfl⟩ := y
    refine ⟨.rfl, ?_⟩
    unfold signs at e
    rw [List.getElem?_map] at e
    have : z.cps.toList[i]? = some c := by simpa using hc
    rw [this] at e
    cases e
    exact rep_str _
end
section
variable {X : Cx} {W : WX} {tg e : Expr} {m : ME}
theorem it_list {pins : List (Addr × Obj)} {s1 : Shared} {σ : L2.St} {H1 : Hp} {R : It → Hp → Prop} {E : Value → Shared → Prop} {a : Addr} {xs : List V} (I1 : L2.Inv X pins σ H1 s1) (hq : L2.SqL X.K H1 a xs) (q : R (Itl X.K a) H1) :
    wpAny (model X.prog X.w) X.A (pyIter (.ref a)) (PIE X pins σ tg R) E s1 := by
  obtain ⟨its, rv, p, hz⟩ := I1.list hq
  refine wpAny_pyIter_list p.isList ?_
  refine ⟨s1.heap.objs.size, [s1.heap.objs.size], _, _, H1, rfl, I1.kept (t' := s1.toks) fun b o e => Heap.get?_push_of_some _ e, turn_list a _, ⟨_, Heap.get?_push_size _ rfl, rfl, rfl⟩, fun b hb => ?_, q⟩
  have e : b = s1.heap.objs.size := by simpa using hb
  subst e
  exact I1.fpOk (Nat.le_refl _) (I1.hok.fresh (Nat.le_refl _))
theorem it_tup {pins : List (Addr × Obj)} {s1 : Shared} {σ : L2.St} {H1 : Hp} {R : It → Hp → Prop} {E : Value → Shared → Prop} {a : Addr} {xs : List V} (I1 : L2.Inv X pins σ H1 s1) (hq : L2.SqT X.K H1 a xs) (q : R (Itt X.K a) H1) :
    wpAny (model X.prog X.w) X.A (pyIter (.ref a)) (PIE X pins σ tg R) E s1 := by
  obtain ⟨its, rv, p, hz⟩ := I1.tuple hq
  refine wpAny_pyIter_tuple (show s1.heap.IsTuple a its.toArray from p) ?_
  refine ⟨s1.heap.objs.size, [s1.heap.objs.size], _, _, H1, rfl, I1.kept (t' := s1.toks) fun b o e => Heap.get?_push_of_some _ e, turn_tuple a _, ⟨_, Heap.get?_push_size _ rfl, rfl, rfl⟩, fun b hb => ?_, q⟩
  have e : b = s1.heap.objs.size := by simpa using hb
  subst e
  exact I1.fpOk (Nat.le_refl _) (I1.hok.fresh (Nat.le_refl _))
theorem it_keys {pins : List (Addr × Obj)} {s1 : Shared} {σ : L2.St} {H1 : Hp} {R : It → Hp → Prop} {E : Value → Shared → Prop} {d : Addr} {o : Obj} {kvs : List (Key × V)} (I1 : L2.Inv X pins σ H1 s1) (hd : H1 d = some (.frz o (.dK kvs))) (q : R (Itk d o kvs) H1) :
    wpAny (model X.prog X.w) X.A (pyIter (.ref d)) (PIE X pins σ tg R) E s1 := by
  obtain ⟨hs, hgd, hx, es, ep, vs, hdt, hsz, kv, hm⟩ := I1.frzK hd
  refine iter_keys hs hgd hx hdt (pi_one (tk := s1.toks) I1 _ (turn_keys _ hdt) ⟨_, Heap.get?_push_size _ rfl, rfl, ?_⟩ q)
  rw [hsz] <;> rfl
theorem it_keysT {pins : List (Addr × Obj)} {s1 : Shared} {σ : L2.St} {H1 : Hp} {R : It → Hp → Prop} {E : Value → Shared → Prop} {d : Addr} {o : Obj} {kvs : List (List Key × V)} (I1 : L2.Inv X pins σ H1 s1) (hd : H1 d = some (.frz o (.dT kvs))) (q : R (Itkt d o kvs) H1) :
    wpAny (model X.prog X.w) X.A (pyIter (.ref d)) (PIE X pins σ tg R) E s1 := by
  obtain ⟨hs, hgd, hx, es, ep, hdt, hsz, ent⟩ := I1.frzT hd
  refine iter_keys hs hgd hx hdt (pi_one (tk := s1.toks) I1 _ (turn_keysT _ hdt) ⟨_, Heap.get?_push_size _ rfl, rfl, ?_⟩ q)
  rw [hsz] <;> rfl
/-- a text's value walked -/
theorem it_str {pins : List (Addr × Obj)} {s1 : Shared} {σ : L2.St} {H1 : Hp} {R : It → Hp → Prop} {z : Str} {v : Value} (I1 : L2.Inv X pins σ H1 s1) (r : RelV (.str z) v) (q : R (Its z) H1) :
    wpAny (model X.prog X.w) X.A (pyIter v) (PIE X pins σ tg R) X.xe s1 := by
  obtain ⟨t, rfl⟩ := r
  cases ha : z.cps.all (· < 128)
  · exact wpAny_pyIter_wide ha (pi_one (tk := s1.toks) I1 _ (turn_str _ z t "str_iterator" (.inr rfl)) ⟨_, Heap.get?_push_size _ rfl, rfl, rfl⟩ q)
  · exact wpAny_pyIter_ascii ha (pi_one (tk := s1.toks) I1 _ (turn_str _ z t "str_ascii_iterator" (.inl rfl)) ⟨_, Heap.get?_push_size _ rfl, rfl, rfl⟩ q)
theorem vt_id {d e : D} (h : vt d = e) (n : ∀ xs, e ≠ .tup xs) : d = e := by
  cases d with
  | tpn xs => exact absurd h.symm (n xs)
  | _ => exact h
theorem pI_any (h : PE X e (tE X W m)) : PI X tg e (tI X W (iAny m)) := ⟨fun pins s σ H R I ⟨env, S, μ, rl, o⟩ => by
  refine thn (h.run pins s σ H _ I ⟨env, S, μ, rl, Out.bind o⟩) fun v s1 ⟨x, H1, I1, r1, μ1, S1, d, st, rs, rd, o1⟩ => ?_
  have rw0 := rd.wv.vt
  unfold iterD at o1
  split at o1
  · rename_i ev
    rw [ev] at rw0
    obtain ⟨a, vs, rfl, h1, h2, n⟩ := rw0
    cases r1
    exact it_tup I1 (.inl h1) (o1 _ _ _ .refl rs (walkD_tup h1 n h2))
  · rename_i ev
    rw [vt_id ev nofun] at rd
    unfold Rep at rd
    obtain ⟨a, vs, rfl, h1, n, h2⟩ := rd
    cases r1
    exact it_list I1 (.of h1) (o1 _ _ _ .refl rs (walkD_lst (.of h1) (fun _ _ st => .of (st.keep _ _ h1 n)) h2))
  · rename_i ev
    rw [vt_id ev nofun] at rd
    unfold Rep at rd
    obtain ⟨a, vs, rfl, h1, h2⟩ := rd
    cases r1
    exact it_list I1 h1.sq (o1 _ _ _ .refl rs (walkD_lst h1.sq (fun _ _ st => (h1.stp st).sq) h2))
  · rename_i ev
    rw [vt_id ev nofun] at rd
    unfold Rep at rd
    subst rd
    exact it_str I1 r1 (o1 _ _ _ .refl rs (walkD_str _))
  · rename_i ev
    rw [vt_id ev nofun] at rd
    unfold Rep at rd
    obtain ⟨a, rfl, hμ⟩ := rd
    cases r1
    split at o1
    · rename_i xs es
      obtain ⟨a', h1, vs, h2, h3⟩ := rs.at_ _ _ es
      rw [hμ] at h1; cases h1
      exact it_list I1 (.of h2) (o1 _ _ _ .refl rs ⟨_, hμ, rfl⟩)
    · rename_i t kvs es
      obtain ⟨a', h1, h2⟩ := rs.at_ _ _ es
      rw [hμ] at h1; cases h1
      cases t with
      | false =>
        obtain ⟨vs, ks, ⟨⟨od, q⟩, hk⟩, rr⟩ := h2
        rw [hk] at o1
        exact it_keys I1 q (o1 _ _ _ .refl rs (walkD_keys q (keys_len hk rr)))
      | true =>
        obtain ⟨vs, ks, ⟨⟨od, q⟩, hk⟩, rr⟩ := h2
        rw [hk] at o1
        exact it_keysT I1 q (o1 _ _ _ .refl rs (walkD_keysT q (keys_len hk rr)))
    · exact o1.elim
  · exact o1.elim⟩
/-! ### range -/
def rngD (lo : Int) (n : Nat) : List D := (List.range n).map fun i => .int (lo + (i : Nat))
theorem walkD_rng {K : PySem.W.Frag} {mg : Str → Option Value} {μ : Mu} {H : Hp} (lo : Int) (n : Nat) : WalkD K mg μ H (rngD lo n) (Itr lo n) where
  goes := fun i μ' H' hi st => by
    have : (rngD lo n).length = n := by simp [rngD]
    show i < n
    omega
  stops := fun μ' H' st => by
    show n ≤ (rngD lo n).length
    simp [rngD]
  yields := fun i d μ' H' S x H2 e st rs y => by
    obtain ⟨rfl, rfl⟩ := y
    refine ⟨.rfl, ?_⟩
    unfold rngD at e
    rw [List.getElem?_map] at e
    obtain ⟨j, hj, hd⟩ := Option.map_eq_some_iff.mp e
    have : j = i := by
      have q := List.getElem?_eq_some_iff.mp hj
      obtain ⟨h1, h2⟩ := q
      rw [List.getElem_range] at h2
      exact h2.symm
    subst this
    subst hd
    exact rep_int _
/-- of at most 63 bits; no kernel is to reckon it -/
noncomputable def smallI (i : Int) : Bool := @decide (-(2 ^ 62) ≤ i ∧ i < 2 ^ 62) (Classical.propDecidable _)
theorem smallI_iff {i : Int} : smallI i = true ↔ -(2 ^ 62) ≤ i ∧ i < 2 ^ 62 := by
  unfold smallI
  exact @decide_eq_true_iff _ (Classical.propDecidable _)
noncomputable def iRng1D (r : MA) : MI := fun env S => (r env S).bind fun ds S => match ds with
  | [.int j] => if smallI j then .ok (.items (rngD 0 j.toNat)) S else .stuck
  | _ => .stuck
noncomputable def iRng2D (r : MA) : MI := fun env S => (r env S).bind fun ds S => match ds with
  | [.int i, .int j] => if smallI i && smallI j then .ok (.items (rngD i (j - i).toNat)) S else .stuck
  | _ => .stuck
variable {a b : Expr} {p pos : Pos} {r : MA}
theorem repAll1 {K : PySem.W.Frag} {mg : Str → Option Value} {μ : Mu} {H : Hp} {a : D} {vs : List V} (h : RepAll K mg μ H [a] vs) : ∃ v, vs = [v] ∧ Rep K mg μ H a v := by
  unfold RepAll at h
  obtain ⟨v, q, rfl, r1, r2⟩ := h
  unfold RepAll at r2
  subst r2
  exact ⟨v, rfl, r1⟩
theorem repAll2 {K : PySem.W.Frag} {mg : Str → Option Value} {μ : Mu} {H : Hp} {a b : D} {vs : List V} (h : RepAll K mg μ H [a, b] vs) : ∃ v w, vs = [v, w] ∧ Rep K mg μ H a v ∧ Rep K mg μ H b w := by
  unfold RepAll at h
  obtain ⟨v, q, rfl, r1, r2⟩ := h
  obtain ⟨w, rfl, r3⟩ := repAll1 r2
  exact ⟨v, w, rfl, r1, r3⟩
theorem pI_rng1 (hg : Gl X "range") (hm : X.mg "range" = none) (ha : PA X [a] (tAs X W r)) (hs : starEach [a] X.env = [(false, eval a X.env)] := by rfl) : PI X tg (.Call (.Name "range" p) [a] [] pos) (tI X W (iRng1D r)) :=
  pi_to (pi_range1 hg hm ha hs) fun σ H R ⟨env, S, μ, rl, o⟩ => ⟨env, S, μ, rl, (Out.bind o).mono fun vs H1 ⟨μ1, S1, ds, st, rs, rd, o1⟩ => by
    split at o1
    · rename_i j
      obtain ⟨v, rfl, r1⟩ := repAll1 rd
      unfold Rep at r1
      subst r1
      split at o1
      · rename_i hj
        rw [smallI_iff] at hj
        exact ⟨j, rfl, hj.1, hj.2, o1 _ _ _ .refl rs (walkD_rng 0 _)⟩
      · exact o1.elim
    · exact o1.elim⟩
theorem pI_rng2 (hg : Gl X "range") (hm : X.mg "range" = none) (ha : PA X [a, b] (tAs X W r)) (hs : starEach [a, b] X.env = [(false, eval a X.env), (false, eval b X.env)] := by rfl) (hs2 : starEach [b] X.env = [(false, eval b X.env)] := by rfl) : PI X tg (.Call (.Name "range" p) [a, b] [] pos) (tI X W (iRng2D r)) :=
  pi_to (pi_range2 hg hm ha hs hs2) fun σ H R ⟨env, S, μ, rl, o⟩ => ⟨env, S, μ, rl, (Out.bind o).mono fun vs H1 ⟨μ1, S1, ds, st, rs, rd, o1⟩ => by
    split at o1
    · rename_i i j
      obtain ⟨v, w, rfl, r1, r2⟩ := repAll2 rd
      unfold Rep at r1 r2
      subst r1 r2
      split at o1
      · rename_i hj
        rw [Bool.and_eq_true, smallI_iff, smallI_iff] at hj
        exact ⟨i, j, rfl, ⟨hj.1.1, hj.1.2, hj.2.1, hj.2.2⟩, o1 _ _ _ .refl rs (walkD_rng i _)⟩
      · exact o1.elim
    · exact o1.elim⟩
/-! ### enumerate, zip -/
def enumD (n : Nat) : List D → List D
  | [] => []
  | d :: ds => .tup [.int (n : Nat), d] :: enumD (n + 1) ds
theorem enumD_get : ∀ (ds : List D) (n i : Nat) (d : D), (enumD n ds)[i]? = some d → ∃ e, ds[i]? = some e ∧ d = .tup [.int ((n + i : Nat) : Int), e]
  | [], n, i, d, h => by simp [enumD] at h
  | a :: ds, n, 0, d, h => by
    simp [enumD] at h
    exact ⟨a, rfl, h.symm⟩
  | a :: ds, n, i + 1, d, h => by
    have h : (enumD (n + 1) ds)[i]? = some d := by simpa [enumD] using h
    obtain ⟨e, h1, h2⟩ := enumD_get ds (n + 1) i d h
    exact ⟨e, by simpa using h1, by rw [h2]; congr 3; omega⟩
theorem enumD_length : ∀ (ds : List D) (n : Nat), (enumD n ds).length = ds.length
  | [], _ => rfl
  | a :: ds, n => by simp [enumD, enumD_length ds]
theorem walkD_enumT {K : PySem.W.Frag} {mg : Str → Option Value} {μ : Mu} {H : Hp} {a : Addr} {xs : List D} {vs : List V} (h : Rd H a (.tup vs)) (n : a ∉ μ) (r : RepAll K mg μ H xs vs) : WalkD K mg μ H (enumD 0 xs) (IteT a) where
  goes := fun i μ' H' hi st => ⟨vs, vs[i]'(by rw [enumD_length] at hi; rw [← r.length]; exact hi), (rd_step st h n).1, by simp⟩
  stops := fun μ' H' st => ⟨vs, (rd_step st h n).1, by rw [enumD_length, r.length]⟩
  yields := fun i d μ' H' S x H2 e st rs y => by
    obtain ⟨T, w, rfl, hT, rfl, y⟩ := y
    obtain ⟨d', h1, h2⟩ := enumD_get _ _ _ _ e
    obtain ⟨v, h3, h4⟩ := r.get h1
    have q := y vs ((rd_step st h n).1)
    rw [h3] at q; cases q
    subst h2
    exact ⟨.upd hT, rep_new_tup rs hT (.cons (by rw [Nat.zero_add]; exact rep_int _) (.cons (Rep.stp st _ _ h4) .nil))⟩
theorem walkD_enumL {K : PySem.W.Frag} {mg : Str → Option Value} {μ : Mu} {H : Hp} {a : Addr} {xs : List D} {vs : List V} (h : L2.SqL K H a vs) (hs : ∀ μ' H', Stp μ H μ' H' → L2.SqL K H' a vs) (r : RepAll K mg μ H xs vs) : WalkD K mg μ H (enumD 0 xs) (Ite K a) where
  goes := fun i μ' H' hi st => ⟨vs, vs[i]'(by rw [enumD_length] at hi; rw [← r.length]; exact hi), hs _ _ st, by simp⟩
  stops := fun μ' H' st => ⟨vs, hs _ _ st, by rw [enumD_length, r.length]; exact Nat.le_refl _⟩
  yields := fun i d μ' H' S x H2 e st rs y => by
    obtain ⟨T, w, rfl, hT, rfl, y⟩ := y
    obtain ⟨d', h1, h2⟩ := enumD_get _ _ _ _ e
    obtain ⟨v, h3, h4⟩ := r.get h1
    have q := y vs (hs _ _ st)
    rw [h3] at q; cases q
    subst h2
    exact ⟨.upd hT, rep_new_tup rs hT (.cons (by rw [Nat.zero_add]; exact rep_int _) (.cons (Rep.stp st _ _ h4) .nil))⟩
def iEnumD (r : MA) : MI := fun env S => (r env S).bind fun ds S => match ds.map vt with
  | [.tup xs] => .ok (.items (enumD 0 xs)) S
  | [.lst xs] => .ok (.items (enumD 0 xs)) S
  | [.loc l] => match S[l]? with
    | some (.lst _) => .ok (.liveE l) S
    | _ => .stuck
  | _ => .stuck
theorem repAll_vt {K : PySem.W.Frag} {mg : Str → Option Value} {μ : Mu} {H : Hp} {d0 : D} {ds : List D} {vs : List V} (r : RepAll K mg μ H ds vs) (e : ds.map vt = [d0]) : ∃ d v, ds = [d] ∧ vt d = d0 ∧ vs = [v] ∧ Rep K mg μ H d v := by
  match ds, e with
  | [d], e =>
    obtain ⟨v, rfl, r1⟩ := repAll1 r
    exact ⟨d, v, rfl, by simpa using e, rfl, r1⟩
theorem repAll_vt2 {K : PySem.W.Frag} {mg : Str → Option Value} {μ : Mu} {H : Hp} {d0 d1 : D} {ds : List D} {vs : List V} (r : RepAll K mg μ H ds vs) (e : ds.map vt = [d0, d1]) : ∃ d d' v w, ds = [d, d'] ∧ (vt d = d0 ∧ vt d' = d1) ∧ vs = [v, w] ∧ Rep K mg μ H d v ∧ Rep K mg μ H d' w := by
  match ds, e with
  | [d, d'], e =>
    obtain ⟨v, w, rfl, r1, r2⟩ := repAll2 r
    exact ⟨d, d', v, w, rfl, by simpa using e, rfl, r1, r2⟩
theorem pI_enum {tpos : Pos} {elts : List Expr} {kk : Nat} (hg : Gl X "enumerate") (hm : X.mg "enumerate" = none) (ha : PA X [e] (tAs X W r)) (hs : starEach [e] X.env = [(false, eval e X.env)] := by rfl) :
    PI X (.Tuple elts kk tpos) (.Call (.Name "enumerate" p) [e] [] pos) (tI X W (iEnumD r)) := by
  refine ⟨fun pins s σ H R I ⟨env, S, μ, rl, o⟩ => ?_⟩
  refine Call_ (ld_blt I hg hm boot_enumerate (PyProof.Rows.callWith_type1 (thn (ha.run pos pins s σ H _ I ⟨env, S, μ, rl, Out.bind o⟩) fun us s1 ⟨vs, H1, I1, r1, μ1, S1, ds, st, rs, rd, o1⟩ => ?_) hs rfl))
  have fresh2 : ∀ b ∈ [s1.heap.objs.size + 1, s1.heap.objs.size], FpOk X pins H1 b := fun b hb => by
    have e' : b = s1.heap.objs.size + 1 ∨ b = s1.heap.objs.size := by simpa using hb
    have hle : s1.heap.objs.size ≤ b := by
      rcases e' with z | z
      · rw [z]; exact Nat.le_add_right _ _
      · rw [z]; exact Nat.le_refl _
    exact I1.fpOk hle (I1.hok.fresh hle)
  split at o1
  · rename_i xs ev
    obtain ⟨d, v, rfl, ed, rfl, r2⟩ := repAll_vt rd ev
    have r2 := r2.wv.vt
    rw [ed] at r2
    obtain ⟨a, ws, rfl, h1, h2, n⟩ := r2
    cases r1 with
    | cons ra rr =>
      cases rr
      cases ra
      obtain ⟨its, rv, p', hz⟩ := I1.tuple (.inl h1)
      refine PySem.dl_enum_begins (PySem.begins_tuple a its.toArray) (show s1.heap.IsTuple a its.toArray from p') fun h' he ho hsz hk => wpAny_pyIter_enum he ?_
      have I2 : L2.Inv X pins σ H1 { s1 with heap := h' } := I1.kept (t' := s1.toks) hk
      exact ⟨s1.heap.objs.size + 1, [s1.heap.objs.size + 1, s1.heap.objs.size], _, _, H1, rfl, I2, turn_enumT a (s1.heap.objs.size + 1) s1.heap.objs.size, ⟨⟨.none, he⟩, ⟨_, ho, rfl, rfl⟩, Nat.succ_ne_self _⟩, fresh2, o1 _ _ _ .refl rs (walkD_enumT h1 n h2)⟩
  · rename_i xs ev
    obtain ⟨d, v, rfl, ed, rfl, r2⟩ := repAll_vt rd ev
    rw [vt_id ed nofun] at r2
    unfold Rep at r2
    obtain ⟨a, ws, rfl, h1, n, h2⟩ := r2
    cases r1 with
    | cons ra rr =>
      cases rr
      cases ra
      obtain ⟨its, rv, p', hz⟩ := I1.list (.of h1)
      refine call_enumerate_list p'.isList fun h' he hit hsz hk => wpAny_pyIter_enum he ?_
      have I2 : L2.Inv X pins σ H1 { s1 with heap := h' } := I1.kept (t' := s1.toks) hk
      exact ⟨s1.heap.objs.size + 1, [s1.heap.objs.size + 1, s1.heap.objs.size], _, _, H1, rfl, I2, turn_enum a (s1.heap.objs.size + 1) s1.heap.objs.size, ⟨⟨.none, he⟩, hit, Nat.succ_ne_self _⟩, fresh2, o1 _ _ _ .refl rs (walkD_enumL (.of h1) (fun _ _ st => .of (st.keep _ _ h1 n)) h2)⟩
  · rename_i l ev
    obtain ⟨d, v, rfl, ed, rfl, r2⟩ := repAll_vt rd ev
    rw [vt_id ed nofun] at r2
    unfold Rep at r2
    obtain ⟨a, rfl, ha⟩ := r2
    split at o1
    · rename_i xs es
      obtain ⟨a', g1, ws, h1, h2⟩ := rs.at_ _ _ es
      rw [ha] at g1; cases g1
      cases r1 with
      | cons ra rr =>
        cases rr
        cases ra
        obtain ⟨its, rv, p', hz⟩ := I1.list (.of h1)
        refine call_enumerate_list p'.isList fun h' he hit hsz hk => wpAny_pyIter_enum he ?_
        have I2 : L2.Inv X pins σ H1 { s1 with heap := h' } := I1.kept (t' := s1.toks) hk
        exact ⟨s1.heap.objs.size + 1, [s1.heap.objs.size + 1, s1.heap.objs.size], _, _, H1, rfl, I2, turn_enum a (s1.heap.objs.size + 1) s1.heap.objs.size, ⟨⟨.none, he⟩, hit, Nat.succ_ne_self _⟩, fresh2, o1 _ _ _ .refl rs ⟨a, ha, rfl⟩⟩
    · exact o1.elim
  · exact o1.elim
def zipD : List D → List D → List D
  | a :: as, b :: bs => .tup [a, b] :: zipD as bs
  | _, _ => []
theorem zipD_get : ∀ (as bs : List D) (i : Nat) (d : D), (zipD as bs)[i]? = some d → ∃ a b, as[i]? = some a ∧ bs[i]? = some b ∧ d = .tup [a, b]
  | [], _, i, d, h => by simp [zipD] at h
  | a :: as, [], i, d, h => by simp [zipD] at h
  | a :: as, b :: bs, 0, d, h => by
    simp [zipD] at h
    exact ⟨a, b, rfl, rfl, h.symm⟩
  | a :: as, b :: bs, i + 1, d, h => by
    have h : (zipD as bs)[i]? = some d := by simpa [zipD] using h
    obtain ⟨x, y, h1, h2, h3⟩ := zipD_get as bs i d h
    exact ⟨x, y, by simpa using h1, by simpa using h2, h3⟩
theorem zipD_length : ∀ (as bs : List D), (zipD as bs).length = min as.length bs.length
  | [], _ => by simp [zipD]
  | a :: as, [] => by simp [zipD]
  | a :: as, b :: bs => by simp [zipD, zipD_length as bs]
theorem walkD_zipT {K : PySem.W.Frag} {mg : Str → Option Value} {μ : Mu} {H : Hp} {a b : Addr} {xs ys : List D} {vs ws : List V} (h : Rd H a (.tup vs)) (n : a ∉ μ) (r : RepAll K mg μ H xs vs) (h' : Rd H b (.tup ws)) (n' : b ∉ μ) (r' : RepAll K mg μ H ys ws) :
    WalkD K mg μ H (zipD xs ys) (RZ.ItzT K a b) where
  goes := fun i μ' H' hi st => by
    rw [zipD_length] at hi
    have h1 : i < vs.length := by rw [← r.length]; omega
    have h2 : i < ws.length := by rw [← r'.length]; omega
    exact ⟨vs, ws, vs[i], ws[i], .inl (rd_step st h n).1, .inl (rd_step st h' n').1, by simp, by simp⟩
  stops := fun μ' H' st => ⟨vs, ws, .inl (rd_step st h n).1, .inl (rd_step st h' n').1, by rw [zipD_length, ← r.length, ← r'.length]; omega⟩
  yields := fun i d μ' H' S x H2 e st rs y => by
    obtain ⟨T, w1, w2, rfl, hT, rfl, y1, y2⟩ := y
    obtain ⟨da, db, e1, e2, rfl⟩ := zipD_get _ _ _ _ e
    obtain ⟨u1, g1, k1⟩ := r.get e1
    obtain ⟨u2, g2, k2⟩ := r'.get e2
    have q1 := y1 vs (.inl (rd_step st h n).1)
    have q2 := y2 ws (.inl (rd_step st h' n').1)
    rw [g1] at q1; cases q1
    rw [g2] at q2; cases q2
    exact ⟨.upd hT, rep_new_tup rs hT (.cons (Rep.stp st _ _ k1) (.cons (Rep.stp st _ _ k2) .nil))⟩
theorem walkD_zipL {K : PySem.W.Frag} {mg : Str → Option Value} {μ : Mu} {H : Hp} {a b : Addr} {xs ys : List D} {vs ws : List V} (h : H a = some (.lst vs)) (n : a ∉ μ) (r : RepAll K mg μ H xs vs) (h' : H b = some (.lst ws)) (n' : b ∉ μ) (r' : RepAll K mg μ H ys ws) :
    WalkD K mg μ H (zipD xs ys) (Itz K a b) where
  goes := fun i μ' H' hi st => by
    rw [zipD_length] at hi
    have h1 : i < vs.length := by rw [← r.length]; omega
    have h2 : i < ws.length := by rw [← r'.length]; omega
    exact ⟨vs, ws, vs[i], ws[i], .of (st.keep _ _ h n), .of (st.keep _ _ h' n'), by simp, by simp⟩
  stops := fun μ' H' st => ⟨vs, ws, .of (st.keep _ _ h n), .of (st.keep _ _ h' n'), by rw [zipD_length, ← r.length, ← r'.length]; omega⟩
  yields := fun i d μ' H' S x H2 e st rs y => by
    obtain ⟨T, w1, w2, rfl, hT, rfl, y1, y2⟩ := y
    obtain ⟨da, db, e1, e2, rfl⟩ := zipD_get _ _ _ _ e
    obtain ⟨u1, g1, k1⟩ := r.get e1
    obtain ⟨u2, g2, k2⟩ := r'.get e2
    have q1 := y1 vs (.of (st.keep _ _ h n))
    have q2 := y2 ws (.of (st.keep _ _ h' n'))
    rw [g1] at q1; cases q1
    rw [g2] at q2; cases q2
    exact ⟨.upd hT, rep_new_tup rs hT (.cons (Rep.stp st _ _ k1) (.cons (Rep.stp st _ _ k2) .nil))⟩
def iZipD (r : MA) : MI := fun env S => (r env S).bind fun ds S => match ds.map vt with
  | [.tup xs, .tup ys] => .ok (.items (zipD xs ys)) S
  | [.lst xs, .lst ys] => .ok (.items (zipD xs ys)) S
  | _ => .stuck
theorem pI_zip {tpos : Pos} {elts : List Expr} {kk : Nat} {e2 : Expr} (hg : Gl X "zip") (hm : X.mg "zip" = none) (ha : PA X [e, e2] (tAs X W r))
    (hs : starEach [e, e2] X.env = (false, eval e X.env) :: starEach [e2] X.env := by rfl) (hpl : (backTo pos (starEach [e2] X.env)).any (·.1) = false := by rfl) :
    PI X (.Tuple elts kk tpos) (.Call (.Name "zip" p) [e, e2] [] pos) (tI X W (iZipD r)) :=
  pi_to (RZ.pi_zipA hg hm ha hs hpl) fun σ H R ⟨env, S, μ, rl, o⟩ => ⟨env, S, μ, rl, (Out.bind o).mono fun vs H1 ⟨μ1, S1, ds, st, rs, rd, o1⟩ => by
    split at o1
    · rename_i ev
      obtain ⟨d, d', v, w, rfl, ⟨e1, e2⟩, rfl, r1, r2⟩ := repAll_vt2 rd ev
      have r1 := r1.wv.vt
      have r2 := r2.wv.vt
      rw [e1] at r1
      rw [e2] at r2
      obtain ⟨a, va, rfl, h1, l1, n1⟩ := r1
      obtain ⟨b, vb, rfl, h2, l2, n2⟩ := r2
      exact ⟨a, b, va, vb, rfl, .inr ⟨.inl h1, .inl h2, o1 _ _ _ .refl rs (walkD_zipT h1 n1 l1 h2 n2 l2)⟩⟩
    · rename_i ev
      obtain ⟨d, d', v, w, rfl, ⟨e1, e2⟩, rfl, r1, r2⟩ := repAll_vt2 rd ev
      rw [vt_id e1 nofun] at r1
      rw [vt_id e2 nofun] at r2
      unfold Rep at r1 r2
      obtain ⟨a, va, rfl, h1, n1, l1⟩ := r1
      obtain ⟨b, vb, rfl, h2, n2, l2⟩ := r2
      exact ⟨a, b, va, vb, rfl, .inl ⟨.of h1, .of h2, o1 _ _ _ .refl rs (walkD_zipL h1 n1 l1 h2 n2 l2)⟩⟩
    · exact o1.elim⟩
/-! ### for -/
def loopI (g : MG) (b : MS) : List D → MS
  | [] => fun env S => .next env S
  | d :: ds => fun env S => match g d env S with
    | none => .stuck
    | some p => match b p.1 p.2 with
      | .next env S => loopI g b ds env S
      | .cont env S => loopI g b ds env S
      | .brk env S => .next env S
      | .ret d S => .ret d S
      | .exc e env S => .exc e env S
      | .stuck => .stuck
def loopL (g : MG) (b : MS) (l : Nat) : Nat → Nat → MS
  | 0, _ => fun _ _ => .stuck
  | n + 1, i => fun env S => match S[l]? with
    | some (.lst xs) => match xs[i]? with
      | none => .next env S
      | some d => match g d env S with
        | none => .stuck
        | some p => match b p.1 p.2 with
          | .next env S => loopL g b l n (i + 1) env S
          | .cont env S => loopL g b l n (i + 1) env S
          | .brk env S => .next env S
          | .ret d S => .ret d S
          | .exc e env S => .exc e env S
          | .stuck => .stuck
    | _ => .stuck
/-- with the places, the first one 0 -/
def loopE (g : MG) (b : MS) (l : Nat) : Nat → Nat → MS
  | 0, _ => fun _ _ => .stuck
  | n + 1, i => fun env S => match S[l]? with
    | some (.lst xs) => match xs[i]? with
      | none => .next env S
      | some d => match g (.tup [.int (i : Nat), d]) env S with
        | none => .stuck
        | some p => match b p.1 p.2 with
          | .next env S => loopE g b l n (i + 1) env S
          | .cont env S => loopE g b l n (i + 1) env S
          | .brk env S => .next env S
          | .ret d S => .ret d S
          | .exc e env S => .exc e env S
          | .stuck => .stuck
    | _ => .stuck
def lenL (S : Sto) (l : Nat) : Nat := match S[l]? with
  | some (.lst xs) => xs.length
  | _ => 0
def sFor (mi : MI) (g : MG) (b : MS) : MS := fun env S => (mi env S).rs env fun it S => match it with
  | .items ds => loopI g b ds env S
  | .live l => loopL g b l (lenL S l + 1) 0 env S
  | .liveE l => loopE g b l (lenL S l + 1) 0 env S
theorem sS_for {iter : Expr} {body : List Stmt} {mi : MI} {g : MG} {b : MS} (hp : PassesOwn (model X.prog X.w) X.A X.env X.xe) (hc : X.calm = true) (hi : PI X tg iter (tI X W mi)) (hg : PG X tg (tG X g)) (hb : PSs X body (tS X W b))
    (hs : ∀ x, foldedSetIterable iter X.env x = pure x := by intro _; rfl) : PS X (.For tg iter body [] pos) (tS X W (sFor mi g b)) :=
  ps_to (ps_for hp hc hi hg hb hs) fun D σ H ⟨env, S, μ, rl, o⟩ => ⟨env, S, μ, rl, (OutS.rs rl.env o).mono fun J H1 ⟨μ1, S1, it, st, rs, rd, o1⟩ => by
    cases it with
    | items ds =>
      have rd : WalkD X.K X.mg μ1 H1 ds J := rd
      refine ⟨fun i n σ H => n + i = ds.length ∧ ∃ env S μ, Step μ1 H1 μ H ∧ Rl X.K X.mg μ H env σ S ∧ OutS X.K X.mg W μ H D (loopI g b (ds.drop i) env S), ⟨ds.length, rfl, env, S1, μ1, .refl, ⟨rl.env.step st, rs⟩, o1⟩, ?_⟩
      rintro i n σ H ⟨hn, env, S, μ, st1, rl, o⟩
      by_cases hi : i < ds.length
      · have ed : ds.drop i = ds[i] :: ds.drop (i + 1) := List.drop_eq_getElem_cons hi
        rw [ed] at o
        unfold loopI at o
        refine .inr ⟨rd.goes i μ H hi st1.toStp, fun σ H => ∃ env S μ, Step μ1 H1 μ H ∧ Rl X.K X.mg μ H env σ S ∧ OutS X.K X.mg W μ H D (loopI g b (ds.drop (i + 1)) env S), fun σ' H' w => ⟨n - 1, by omega, by omega, w⟩, fun x H' y => ?_⟩
        obtain ⟨sm, rx⟩ := rd.yields i _ μ H S x H' (List.getElem?_eq_getElem hi) st1.toStp rl.sto y
        have stx : Step μ H μ H' := .of_sm sm
        refine ⟨env, S, μ, _, rl.sm sm, rx, ?_⟩
        cases hg : g ds[i] env S with
        | none => rw [hg] at o; exact o.elim
        | some p =>
          rw [hg] at o
          refine fun μ2 H2 σ2 st2 re2 rs2 => ⟨p.1, p.2, μ2, ⟨re2, rs2⟩, ?_⟩
          have o := OutS.of_step (stx.trans st2) o
          cases hb : b p.1 p.2 with
          | next e S => simp only [hb] at o; exact fun μ' H' σ' s t u => ⟨e, S, μ', ((st1.trans stx).trans st2).trans s, ⟨t, u⟩, OutS.of_step s o⟩
          | cont e S => simp only [hb] at o; exact fun μ' H' σ' s t u => ⟨e, S, μ', ((st1.trans stx).trans st2).trans s, ⟨t, u⟩, OutS.of_step s o⟩
          | brk e S => simp only [hb] at o; exact o
          | ret d S => simp only [hb] at o; exact o
          | exc e v S => simp only [hb] at o; exact o
          | stuck => simp only [hb] at o; exact o
      · have e : i = ds.length := by omega
        subst e
        rw [List.drop_length] at o
        exact .inl ⟨rd.stops μ H st1.toStp, o μ H σ .refl rl.env rl.sto⟩
    | live l =>
      obtain ⟨a, ha, rfl⟩ := rd
      refine ⟨fun i n σ H => ∃ env S μ, Step μ1 H1 μ H ∧ Rl X.K X.mg μ H env σ S ∧ OutS X.K X.mg W μ H D (loopL g b l n i env S), ⟨_, env, S1, μ1, .refl, ⟨rl.env.step st, rs⟩, o1⟩, ?_⟩
      rintro i n σ H ⟨env, S, μ, st1, rl, o⟩
      cases n with
      | zero => exact o.elim
      | succ n =>
        unfold loopL at o
        split at o
        · rename_i xs es
          obtain ⟨a', h1, vs, h2, h3⟩ := rl.sto.at_ _ _ es
          rw [st1.get ha] at h1; cases h1
          split at o
          · rename_i hx
            refine .inl ⟨⟨vs, .of h2, ?_⟩, o μ H σ .refl rl.env rl.sto⟩
            rw [← h3.length]
            exact List.getElem?_eq_none_iff.mp hx
          · rename_i d hx
            obtain ⟨v, hv, rv⟩ := h3.get hx
            refine .inr ⟨⟨vs, v, .of h2, hv⟩, fun σ H => ∃ env S μ, Step μ1 H1 μ H ∧ Rl X.K X.mg μ H env σ S ∧ OutS X.K X.mg W μ H D (loopL g b l n (i + 1) env S), fun σ' H' w => ⟨n, Nat.lt_succ_self n, w⟩, fun x H' y => ?_⟩
            obtain ⟨rfl, y⟩ := y
            have q := y vs (.of h2)
            rw [hv] at q; cases q
            refine ⟨env, S, μ, _, rl, rv, ?_⟩
            cases hg : g d env S with
            | none => rw [hg] at o; exact o.elim
            | some p =>
              rw [hg] at o
              refine fun μ2 H2 σ2 st2 re2 rs2 => ⟨p.1, p.2, μ2, ⟨re2, rs2⟩, ?_⟩
              have o := OutS.of_step st2 o
              cases hb : b p.1 p.2 with
              | next e S => simp only [hb] at o; exact fun μ' H' σ' s t u => ⟨e, S, μ', (st1.trans st2).trans s, ⟨t, u⟩, OutS.of_step s o⟩
              | cont e S => simp only [hb] at o; exact fun μ' H' σ' s t u => ⟨e, S, μ', (st1.trans st2).trans s, ⟨t, u⟩, OutS.of_step s o⟩
              | brk e S => simp only [hb] at o; exact o
              | ret d S => simp only [hb] at o; exact o
              | exc e v S => simp only [hb] at o; exact o
              | stuck => simp only [hb] at o; exact o
        · exact o.elim
    | liveE l =>
      obtain ⟨a, ha, rfl⟩ := rd
      refine ⟨fun i n σ H => ∃ env S μ, Step μ1 H1 μ H ∧ Rl X.K X.mg μ H env σ S ∧ OutS X.K X.mg W μ H D (loopE g b l n i env S), ⟨_, env, S1, μ1, .refl, ⟨rl.env.step st, rs⟩, o1⟩, ?_⟩
      rintro i n σ H ⟨env, S, μ, st1, rl, o⟩
      cases n with
      | zero => exact o.elim
      | succ n =>
        unfold loopE at o
        split at o
        · rename_i xs es
          obtain ⟨a', h1, vs, h2, h3⟩ := rl.sto.at_ _ _ es
          rw [st1.get ha] at h1; cases h1
          split at o
          · rename_i hx
            refine .inl ⟨⟨vs, .of h2, ?_⟩, o μ H σ .refl rl.env rl.sto⟩
            rw [← h3.length]
            exact List.getElem?_eq_none_iff.mp hx
          · rename_i d hx
            obtain ⟨v, hv, rv⟩ := h3.get hx
            refine .inr ⟨⟨vs, v, .of h2, hv⟩, fun σ H => ∃ env S μ, Step μ1 H1 μ H ∧ Rl X.K X.mg μ H env σ S ∧ OutS X.K X.mg W μ H D (loopE g b l n (i + 1) env S), fun σ' H' w => ⟨n, Nat.lt_succ_self n, w⟩, fun x H' y => ?_⟩
            obtain ⟨T, w, rfl, hT, rfl, y⟩ := y
            have q := y vs (.of h2)
            rw [hv] at q; cases q
            have sm : Sm H (upd H T (.tup [.int (i : Int), v])) := .upd hT
            have stx : Step μ H μ (upd H T (.tup [.int (i : Int), v])) := .of_sm sm
            have rx : Rep X.K X.mg μ (upd H T (.tup [.int (i : Int), v])) (.tup [.int (i : Nat), d]) (.ref T) := rep_new_tup rl.sto hT (.cons (rep_int _) (.cons rv .nil))
            refine ⟨env, S, μ, _, rl.sm sm, rx, ?_⟩
            cases hg : g (.tup [.int (i : Nat), d]) env S with
            | none => rw [hg] at o; exact o.elim
            | some p =>
              rw [hg] at o
              refine fun μ2 H2 σ2 st2 re2 rs2 => ⟨p.1, p.2, μ2, ⟨re2, rs2⟩, ?_⟩
              have o := OutS.of_step (stx.trans st2) o
              cases hb : b p.1 p.2 with
              | next e S => simp only [hb] at o; exact fun μ' H' σ' s t u => ⟨e, S, μ', ((st1.trans stx).trans st2).trans s, ⟨t, u⟩, OutS.of_step s o⟩
              | cont e S => simp only [hb] at o; exact fun μ' H' σ' s t u => ⟨e, S, μ', ((st1.trans stx).trans st2).trans s, ⟨t, u⟩, OutS.of_step s o⟩
              | brk e S => simp only [hb] at o; exact o
              | ret d S => simp only [hb] at o; exact o
              | exc e v S => simp only [hb] at o; exact o
              | stuck => simp only [hb] at o; exact o
        · exact o.elim⟩
end
end DL

set_option Elab.async false
set_option linter.all false
set_option maxRecDepth 100000
/-! DL8: comprehensions. -/
namespace DL
open PySem PySem.Spec PyProof.Rows L2
def wipeE (env : En) : List Nat → En
  | [] => env
  | v :: vs => (wipeE env vs).set v none
theorem wipeE_length (env : En) : ∀ vs : List Nat, (wipeE env vs).length = env.length
  | [] => rfl
  | v :: vs => by unfold wipeE; rw [List.length_set, wipeE_length env vs]
theorem wipeE_some {env : En} {i : Nat} {x : D} : ∀ {vs : List Nat}, (wipeE env vs)[i]? = some (some x) → env[i]? = some (some x) ∧ i ∉ vs
  | [], h => ⟨h, by simp⟩
  | v :: vs, h => by
    unfold wipeE at h
    by_cases hi : v = i
    · subst hi
      by_cases hv : v < (wipeE env vs).length
      · rw [List.getElem?_set_self hv] at h; cases h
      · rw [List.getElem?_eq_none (by simpa using hv)] at h; cases h
    · rw [List.getElem?_set_ne hi] at h
      obtain ⟨h1, h2⟩ := wipeE_some h
      exact ⟨h1, by simp only [List.mem_cons, not_or]; exact ⟨fun e => hi e.symm, h2⟩⟩
theorem RelE.wipe {K : PySem.W.Frag} {mg : Str → Option Value} {μ : Mu} {H : Hp} {env : En} {σ : L2.St} (h : RelE K mg μ H env σ) (vs : List Nat) : RelE K mg μ H (wipeE env vs) (L2.wipe σ vs) := by
  refine ⟨by rw [wipeE_length, wipe_length]; exact h.len, fun i d e => ?_⟩
  obtain ⟨h1, h2⟩ := wipeE_some e
  obtain ⟨v, h3, h4⟩ := h.at_ i d h1
  exact ⟨v, by rw [wipe_out h2]; exact h3, h4⟩
theorem wipe_set {σ : L2.St} {i : Nat} {v : Option V} : ∀ {vs : List Nat}, i ∈ vs → L2.wipe (σ.set i v) vs = L2.wipe σ vs
  | [], h => by cases h
  | j :: vs, h => by
    unfold L2.wipe
    by_cases hj : j = i
    · subst hj
      by_cases hm : j ∈ vs
      · rw [wipe_set hm]
      · have : ∀ (ws : List Nat) (τ : L2.St), j ∉ ws → L2.wipe (τ.set j v) ws = (L2.wipe τ ws).set j v := by
          intro ws
          induction ws with
          | nil => intro τ _; rfl
          | cons k ws ih =>
            intro τ hk
            rw [List.mem_cons, not_or] at hk
            unfold L2.wipe
            rw [ih τ hk.2, List.set_comm _ _ hk.1]
        rw [this vs σ hm, List.set_set]
    · have hm : i ∈ vs := by
        rcases List.mem_cons.mp h with e | e
        · exact absurd e.symm hj
        · exact e
      rw [wipe_set hm]
/-! ### targets of a comprehension: the block's own names alone -/
def tGc (X : Cx) (vs : List Nat) (g : MG) : TG := fun v σ H Q => ∃ env S μ d, Rl X.K X.mg μ H env σ S ∧ Rep X.K X.mg μ H d v ∧ OutO X.K X.mg μ H (fun σ' H' => L2.wipe σ' vs = L2.wipe σ vs → Q σ' H') (g d env S)
def tGcs (X : Cx) (vs : List Nat) (g : MGs) : TGs := fun us σ H Q => ∃ env S μ ds, Rl X.K X.mg μ H env σ S ∧ RepAll X.K X.mg μ H ds us ∧ OutO X.K X.mg μ H (fun σ' H' => L2.wipe σ' vs = L2.wipe σ vs → Q σ' H') (g ds env S)
theorem OutO.mono {K : PySem.W.Frag} {mg : Str → Option Value} {μ : Mu} {H : Hp} {Q Q' : L2.St → Hp → Prop} {r : Option (En × Sto)} (o : OutO K mg μ H Q r) (h : ∀ σ H, Q σ H → Q' σ H) : OutO K mg μ H Q' r := by
  cases r with
  | none => exact o
  | some p => exact fun μ' H' σ' s t u => h _ _ (o μ' H' σ' s t u)
section
variable {X : Cx} {W : WX} {e tg iter elt : Expr} {pos : Pos} {g : MG} {m : ME} {mi : MI} {tc : MT} {vs : List Nat}
theorem sC_name {i : Nat} {x : Str} (hN : X.N.Nodup) (hi : X.N[i]? = some x) (hx : Loc X.env.scope x) (hv : i ∈ vs) (hf : X.fn x = true ∨ X.env.scope.names.lookup x = some .local := by first | exact .inl rfl | exact .inr rfl | assumption) : PG X (.Name x pos) (tGc X vs (gV i)) :=
  pg_to (pg_name hN hi hx hf) fun v σ H Q ⟨env, S, μ, d, rl, r, o⟩ => o μ H _ .refl (rl.env.set r) rl.sto (wipe_set hv)
theorem sCs_nil : PGs X [] (tGcs X vs gsNil) := pgs_to pgs_nil fun us σ H Q ⟨env, S, μ, ds, rl, r, o⟩ => by
  cases ds with
  | nil => unfold RepAll at r; exact ⟨r, o μ H σ .refl rl.env rl.sto rfl⟩
  | cons a b => exact o.elim
theorem sCs_cons {es : List Expr} {gs : MGs} (h1 : PG X e (tGc X vs g)) (h2 : PGs X es (tGcs X vs gs))
    (hs : (assignEach (e :: es) X.env).map (·.2) = assign e X.env :: (assignEach es X.env).map (·.2) := by rfl) : PGs X (e :: es) (tGcs X vs (gsCons g gs)) :=
  pgs_to (pgs_cons h1 h2 hs) fun us σ H Q ⟨env, S, μ, ds, rl, r, o⟩ => by
    cases ds with
    | nil => exact o.elim
    | cons d ds =>
      unfold RepAll at r
      obtain ⟨v, q, rfl, r1, r2⟩ := r
      refine ⟨v, q, rfl, env, S, μ, d, rl, r1, ?_⟩
      have o : OutO X.K X.mg μ H _ ((g d env S).bind fun p => gs ds p.1 p.2) := o
      cases hq : g d env S with
      | none => rw [hq] at o; exact o.elim
      | some p =>
        rw [hq] at o
        exact fun μ' H' σ' s t u w => ⟨p.1, p.2, μ', ds, ⟨t, u⟩, RepAll.step s _ _ r2, (OutO.of_step s o).mono fun σ2 H2 f w2 => f (w2.trans w)⟩
theorem sC_tup {es : List Expr} {k : Nat} {n : Nat} {gs : MGs} (hc : X.calm = true) (h : PGs X es (tGcs X vs gs))
    (hn : (assignEach es X.env).length = n := by rfl) (hst : (assignEach es X.env).findIdx? (·.1) = none := by rfl) : PG X (.Tuple es k pos) (tGc X vs (gTupD n gs)) :=
  pg_to (pg_tup hc h hn hst) fun v σ H Q ⟨env, S, μ, d, rl, r, o⟩ => by
    unfold gTupD at o
    split at o
    · rename_i ds ev
      by_cases hl : ds.length = n
      · simp only [hl, if_true] at o
        have w := r.wv.vt
        rw [ev] at w
        obtain ⟨a, vs, rfl, h1, h2, _⟩ := w
        exact ⟨a, vs, rfl, .inl h1, by rw [← h2.length]; exact hl, env, S, μ, ds, rl, h2, o⟩
      · simp only [hl, if_false] at o; exact o.elim
    · exact o.elim
/-! ### the loop -/
def Res.bindS {α β : Type} : Res α → (α → Sto → Res β) → Res β
  | .ok a S, f => f a S
  | _, _ => .stuck
theorem Out.bindS {α β α' β' : Type} {K : PySem.W.Frag} {mg : Str → Option Value} {μ : Mu} {H : Hp} {W W0 : WX} {σ σ' : L2.St} {R : Mu → Hp → α → β → Prop} {R' : Mu → Hp → α' → β' → Prop} {Q : β' → Hp → Prop} {r : Res α} {f : α → Sto → Res α'} (o : Out K mg W σ μ H R' Q (r.bindS f)) :
    Out K mg W0 σ' μ H R (fun b H1 => ∃ μ1 S1 a, Step μ H μ1 H1 ∧ RelS K mg μ1 H1 S1 ∧ R μ1 H1 a b ∧ Out K mg W σ μ1 H1 R' Q (f a S1)) r := by
  cases r with
  | ok a S => exact fun μ' H' b s t u => ⟨μ', S, a, s, t, u, Out.of_step s o⟩
  | exc e S => exact o.elim
  | stuck => exact o
/-- one turn: the items made so far, behind it -/
def turnC (g : MG) (tc : MT) (m : ME) (w : En) (d : D) (acc : List D) (S : Sto) : Res (List D) := match g d w S with
  | none => .stuck
  | some p => (tc p.1 p.2).bindS fun c S2 => if c = true then (m p.1 S2).bindS fun v S3 => if acc.length < 1000000 then .ok (acc ++ [v]) S3 else .stuck else .ok acc S2
def compI (g : MG) (tc : MT) (m : ME) (w : En) : List D → List D → Sto → Res (List D)
  | [], acc, S => .ok acc S
  | d :: ds, acc, S => (turnC g tc m w d acc S).bindS fun acc S => compI g tc m w ds acc S
def compL (g : MG) (tc : MT) (m : ME) (w : En) (l : Nat) : Nat → Nat → List D → Sto → Res (List D)
  | 0, _, _, _ => .stuck
  | n + 1, i, acc, S => match S[l]? with
    | some (.lst xs) => match xs[i]? with
      | none => .ok acc S
      | some d => (turnC g tc m w d acc S).bindS fun acc S => compL g tc m w l n (i + 1) acc S
    | _ => .stuck
def compE (g : MG) (tc : MT) (m : ME) (w : En) (l : Nat) : Nat → Nat → List D → Sto → Res (List D)
  | 0, _, _, _ => .stuck
  | n + 1, i, acc, S => match S[l]? with
    | some (.lst xs) => match xs[i]? with
      | none => .ok acc S
      | some d => (turnC g tc m w (.tup [.int (i : Nat), d]) acc S).bindS fun acc S => compE g tc m w l n (i + 1) acc S
    | _ => .stuck
def compR (mi : MI) (g : MG) (tc : MT) (m : ME) (vs : List Nat) : MA := fun env S => (mi env S).bind fun it S => match it with
  | .items ds => compI g tc m (wipeE env vs) ds [] S
  | .live l => compL g tc m (wipeE env vs) l (lenL S l + 1) 0 [] S
  | .liveE l => compE g tc m (wipeE env vs) l (lenL S l + 1) 0 [] S
def eComp (mi : MI) (g : MG) (tc : MT) (m : ME) (vs : List Nat) : ME := fun env S => (compR mi g tc m vs env S).bind fun ds S => .ok (.lst ds) S
def eCompM (mi : MI) (g : MG) (tc : MT) (m : ME) (vs : List Nat) : ME := fun env S => (compR mi g tc m vs env S).bind fun ds S => .ok (.loc S.length) (S ++ [.lst ds])
abbrev W0 : WX := fun _ _ _ _ => False
def tYesM : MT := fun _ S => .ok true S
def PTs' (X : Cx) (ifs : List Expr) (tc : MT) : Prop := PTs X ifs (tT X W0 tc)
theorem sIf_nil : PTs' X [] tYesM := ⟨fun pins s σ H Q I ⟨env, S, μ, rl, o⟩ => pts_nil.run pins s σ H Q I (o μ H true .refl rl.sto rfl)⟩
theorem sIf_one {c : Expr} (h : PT X c (tT X W0 tc)) : PTs' X [c] tc := pts_one h
/-- what a comprehension gives -/
def RL (K : PySem.W.Frag) (mg : Str → Option Value) (μ : Mu) (H : Hp) (ds : List D) (v : V) : Prop := ∃ p us, v = .ref p ∧ H p = some (.lst us) ∧ p ∉ μ ∧ RepAll K mg μ H ds us
theorem wipe_wipe : ∀ (ws vs : List Nat) (τ : L2.St), (∀ i ∈ ws, i ∈ vs) → L2.wipe (L2.wipe τ ws) vs = L2.wipe τ vs
  | [], vs, τ, _ => rfl
  | k :: ws, vs, τ, hk => by
    show L2.wipe ((L2.wipe τ ws).set k none) vs = _
    rw [wipe_set (hk k List.mem_cons_self)]
    exact wipe_wipe ws vs τ fun i hi => hk i (List.mem_cons_of_mem _ hi)
/-- what stays, but what is being made at p -/
structure StP (p : Addr) (μ : Mu) (H : Hp) (μ' : Mu) (H' : Hp) : Prop extends Stp μ H μ' H' where
  hid : μ'.h = μ.h
  hk : ∀ a u, a ≠ p → a ∈ μ.h → H a = some u → NTb u → H' a = some u
theorem StP.of {p : Addr} {μ μ' : Mu} {H H' : Hp} (s : Step μ H μ' H') : StP p μ H μ' H' := ⟨s.toStp, s.hid, fun a u _ h e t => s.hk a u h e t⟩
theorem StP.trans {p : Addr} {μ μ' μ2 : Mu} {H H' H2 : Hp} (s : StP p μ H μ' H') (t : StP p μ' H' μ2 H2) : StP p μ H μ2 H2 := ⟨s.toStp.trans t.toStp, t.hid.trans s.hid, fun a u n h e nt => t.hk a u n (by rw [s.hid]; exact h) (s.hk a u n h e nt) nt⟩
theorem StP.write {p : Addr} {μ : Mu} {H : Hp} {o : HO} (h : p ∈ μ.h) (nf : NF H p) : StP p μ H μ (upd H p o) := ⟨.write_hid h nf, rfl, fun a u n _ e _ => by rw [upd_ne n]; exact e⟩
/-- a turn's reading -/
theorem lc_turn {W : WX} {vs : List Nat} {σ σo : L2.St} {w : En} {p : Addr} {Q : V → Hp → Prop} {μ1 μ2 : Mu} {H1 H2 : Hp} {S2 : Sto} {d : D} {x : V} {acc : List D} {us : List V} {N : Hp → Prop} {f : List D → Sto → Res (List D)}
    (re : RelE X.K X.mg μ2 H2 w (L2.wipe σ vs)) (rs : RelS X.K X.mg μ2 H2 S2) (hp : H2 p = some (.lst us)) (np : p ∈ μ2.h) (ra : RepAll X.K X.mg μ2 H2 acc us) (rx : Rep X.K X.mg μ2 H2 d x)
    (o : Out X.K X.mg W σo μ1 H1 (RL X.K X.mg) Q ((turnC g tc m w d acc S2).bindS f))
    (hN : ∀ μ3 H3 S3 acc' us', StP p μ2 H2 μ3 H3 → RelS X.K X.mg μ3 H3 S3 → H3 p = some (.lst us') → RepAll X.K X.mg μ3 H3 acc' us' → Out X.K X.mg W σo μ1 H1 (RL X.K X.mg) Q (f acc' S3) → N H3) :
    tGc X vs g x (L2.wipe σ vs) H2 fun σ2 H3 => L2.wipe σ2 vs = L2.wipe σ vs ∧ tT X W0 tc σ2 H3 fun b H4 => if b = true then tE X W0 m σ2 H4 fun y H5 => ∃ acc, H5 p = some (.lst acc) ∧ acc.length < sizeLine ∧ N (upd H5 p (.lst (acc ++ [y]))) else N H4 := by
  refine ⟨w, S2, μ2, d, ⟨re, rs⟩, rx, ?_⟩
  unfold turnC at o
  cases hg : g d w S2 with
  | none => simp only [hg, Res.bindS] at o; exact o.elim
  | some q =>
    obtain ⟨e, Se⟩ := q
    simp only [hg] at o
    intro μ3 H3 σ3 st3 re3 rs3 hw
    refine ⟨hw.trans (wipe_wipe vs vs σ fun i hi => hi), e, Se, μ3, ⟨re3, rs3⟩, ?_⟩
    have hp3 : H3 p = some (.lst us) := st3.hk _ _ np hp
    have np3 : p ∈ μ3.h := by rw [st3.hid]; exact np
    have ra3 := RepAll.step st3 _ _ ra
    cases htc : tc e Se with
    | exc a b => simp only [htc, Res.bindS] at o; exact o.elim
    | stuck => simp only [htc, Res.bindS] at o; exact o.elim
    | ok c S4 =>
      simp only [htc, Res.bindS] at o
      intro μ4 H4 b st4 rs4 hb
      subst hb
      have hp4 := st4.hk _ _ np3 hp3
      have np4 : p ∈ μ4.h := by rw [st4.hid]; exact np3
      have ra4 := RepAll.step st4 _ _ ra3
      cases b with
      | false =>
        simp only [Bool.false_eq_true, if_false] at o ⊢
        exact hN μ4 H4 S4 acc us (.of (st3.trans st4)) rs4 hp4 ra4 o
      | true =>
        simp only [if_true] at o ⊢
        refine ⟨e, S4, μ4, ⟨re3.step st4, rs4⟩, ?_⟩
        cases hm : m e S4 with
        | exc a b => simp only [hm, Res.bindS] at o; exact o.elim
        | stuck => simp only [hm, Res.bindS] at o; exact o.elim
        | ok v S5 =>
          simp only [hm, Res.bindS] at o
          intro μ5 H5 y st5 rs5 ry
          have hp5 := st5.hk _ _ np4 hp4
          have np5 : p ∈ μ5.h := by rw [st5.hid]; exact np4
          have ra5 := RepAll.step st5 _ _ ra4
          by_cases hl : acc.length < 1000000
          · simp only [hl, if_true] at o
            have sw : StP p μ5 H5 μ5 (upd H5 p (.lst (us ++ [y]))) := .write np5 (.of hp5)
            refine ⟨us, hp5, ?_, ?_⟩
            · rw [← ra.length, sizeLine_eq]; omega
            · exact hN μ5 _ S5 (acc ++ [v]) (us ++ [y]) ((StP.of ((st3.trans st4).trans st5)).trans sw) (rs5.write_hid np5) upd_same
                (RepAll.stp sw.toStp _ _ (ra5.append (.cons ry .nil))) o
          · simp only [hl, if_false] at o; exact o.elim
theorem lc_sem {own : List (Str × Nat)} {σ : L2.St} {H : Hp} {Q : VK} {W : WX} (h : tM X (RL X.K X.mg) W (compR mi g tc m (own.map (·.2))) σ H Q) :
    tLc (tI X W mi) (tGc X (own.map (·.2)) g) (tT X W0 tc) (tE X W0 m) (own.map (·.2)) σ H Q := by
  obtain ⟨env, S, μ, rl, o⟩ := h
  generalize own.map (·.2) = vs at *
  refine ⟨env, S, μ, rl, (Out.bind o).mono fun J H1 ⟨μ1, S1, it, st, rs, rd, o1⟩ p hp => ?_⟩
  have rw1 : RelE X.K X.mg μ1 H1 (wipeE env vs) (L2.wipe σ vs) := (rl.env.step st).wipe vs
  generalize wipeE env vs = w at *
  -- where it begins
  have sh : Stp μ1 H1 (μ1.hide p) (upd H1 p (.lst [])) := .new_hid hp
  have fin : ∀ (μ2 : Mu) (H2 : Hp) (S2 : Sto) (acc : List D) (us : List V), StP p (μ1.hide p) (upd H1 p (.lst [])) μ2 H2 → RelS X.K X.mg μ2 H2 S2 → H2 p = some (.lst us) → RepAll X.K X.mg μ2 H2 acc us → Out X.K X.mg W σ μ1 H1 (RL X.K X.mg) Q (.ok acc S2) → Q (.ref p) H2 := by
    intro μ2 H2 S2 acc us sp rs2 hp2 ra o
    have sub : ∀ a ∈ μ1.h, a ∈ μ2.h := fun a ha => by rw [sp.hid]; exact List.mem_cons_of_mem _ ha
    have su : Stp μ2 H2 ⟨μ2.l, μ1.h⟩ H2 := .unhide sub
    have np : p ∉ (⟨μ2.l, μ1.h⟩ : Mu) := fun z => z.elim (fun z => rs2.dis p z (by rw [sp.hid]; exact List.mem_cons_self)) (rs.notinH hp)
    exact o ⟨μ2.l, μ1.h⟩ H2 (.ref p) ⟨(sh.trans sp.toStp).trans su, rfl, fun a u ha e nt => sp.hk a u (ne_of_none e hp) (List.mem_cons_of_mem _ ha) (by rw [upd_ne (ne_of_none e hp)]; exact e) nt⟩ (rs2.unhide sub)
      ⟨p, us, rfl, hp2, np, RepAll.stp su _ _ ra⟩
  have npm : ∀ {μ2 : Mu} {H2 : Hp}, StP p (μ1.hide p) (upd H1 p (.lst [])) μ2 H2 → p ∈ μ2.h := fun sp => by rw [sp.hid]; exact List.mem_cons_self
  have st0 : StP p (μ1.hide p) (upd H1 p (.lst [])) (μ1.hide p) (upd H1 p (.lst [])) := .of .refl
  cases it with
  | items ds =>
    have rd : WalkD X.K X.mg μ1 H1 ds J := rd
    refine ⟨fun i n H => n + i = ds.length ∧ ∃ μ S acc us, StP p (μ1.hide p) (upd H1 p (.lst [])) μ H ∧ RelS X.K X.mg μ H S ∧ H p = some (.lst us) ∧ RepAll X.K X.mg μ H acc us ∧ Out X.K X.mg W σ μ1 H1 (RL X.K X.mg) Q (compI g tc m w (ds.drop i) acc S),
      ⟨ds.length, rfl, _, S1, [], [], st0, rs.hide hp, upd_same, .nil, o1⟩, ?_⟩
    rintro i n H ⟨hn, μ, S, acc, us, sp, rs, hpp, ra, o⟩
    have sb : Stp μ1 H1 μ H := sh.trans sp.toStp
    by_cases hi : i < ds.length
    · have ed : ds.drop i = ds[i] :: ds.drop (i + 1) := List.drop_eq_getElem_cons hi
      rw [ed] at o
      unfold compI at o
      refine .inr ⟨rd.goes i μ H hi sb, fun H => ∃ μ S acc us, StP p (μ1.hide p) (upd H1 p (.lst [])) μ H ∧ RelS X.K X.mg μ H S ∧ H p = some (.lst us) ∧ RepAll X.K X.mg μ H acc us ∧ Out X.K X.mg W σ μ1 H1 (RL X.K X.mg) Q (compI g tc m w (ds.drop (i + 1)) acc S), fun H' w => ⟨n - 1, by omega, by omega, w⟩, fun x H' y => ?_⟩
      obtain ⟨sm, rx⟩ := rd.yields i _ μ H S x H' (List.getElem?_eq_getElem hi) sb rs y
      have sx : Step μ H μ H' := .of_sm sm
      have spx := sp.trans (StP.of sx)
      refine lc_turn ((rw1.stp sh).stp spx.toStp) (rs.sm sm) (sm _ _ hpp) (npm spx) (RepAll.step sx _ _ ra) rx o fun μ3 H3 S3 acc' us' s3 rs3 hp3 ra3 o3 => ⟨μ3, S3, acc', us', spx.trans s3, rs3, hp3, ra3, o3⟩
    · have e : i = ds.length := by omega
      subst e
      rw [List.drop_length] at o
      exact .inl ⟨rd.stops μ H sb, fin μ H S acc us sp rs hpp ra o⟩
  | live l =>
    obtain ⟨a, ha, rfl⟩ := rd
    refine ⟨fun i n H => ∃ μ S acc us, StP p (μ1.hide p) (upd H1 p (.lst [])) μ H ∧ RelS X.K X.mg μ H S ∧ H p = some (.lst us) ∧ RepAll X.K X.mg μ H acc us ∧ Out X.K X.mg W σ μ1 H1 (RL X.K X.mg) Q (compL g tc m w l n i acc S),
      ⟨_, _, S1, [], [], st0, rs.hide hp, upd_same, .nil, o1⟩, ?_⟩
    rintro i n H ⟨μ, S, acc, us, sp, rs, hpp, ra, o⟩
    have sb : Stp μ1 H1 μ H := sh.trans sp.toStp
    cases n with
    | zero => exact o.elim
    | succ n =>
      unfold compL at o
      split at o
      · rename_i xs es
        obtain ⟨a', h1, vs', h2, h3⟩ := rs.at_ _ _ es
        rw [sb.get ha] at h1; cases h1
        split at o
        · rename_i hx
          refine .inl ⟨⟨vs', .of h2, ?_⟩, fin μ H S acc us sp rs hpp ra o⟩
          rw [← h3.length]
          exact List.getElem?_eq_none_iff.mp hx
        · rename_i d hx
          obtain ⟨v, hv, rv⟩ := h3.get hx
          refine .inr ⟨⟨vs', v, .of h2, hv⟩, fun H => ∃ μ S acc us, StP p (μ1.hide p) (upd H1 p (.lst [])) μ H ∧ RelS X.K X.mg μ H S ∧ H p = some (.lst us) ∧ RepAll X.K X.mg μ H acc us ∧ Out X.K X.mg W σ μ1 H1 (RL X.K X.mg) Q (compL g tc m w l n (i + 1) acc S), fun H' w => ⟨n, Nat.lt_succ_self n, w⟩, fun x H' y => ?_⟩
          obtain ⟨rfl, y⟩ := y
          have q := y vs' (.of h2)
          rw [hv] at q; cases q
          exact lc_turn ((rw1.stp sh).stp sp.toStp) rs hpp (npm sp) ra rv o fun μ3 H3 S3 acc' us' s3 rs3 hp3 ra3 o3 => ⟨μ3, S3, acc', us', sp.trans s3, rs3, hp3, ra3, o3⟩
      · exact o.elim
  | liveE l =>
    obtain ⟨a, ha, rfl⟩ := rd
    refine ⟨fun i n H => ∃ μ S acc us, StP p (μ1.hide p) (upd H1 p (.lst [])) μ H ∧ RelS X.K X.mg μ H S ∧ H p = some (.lst us) ∧ RepAll X.K X.mg μ H acc us ∧ Out X.K X.mg W σ μ1 H1 (RL X.K X.mg) Q (compE g tc m w l n i acc S),
      ⟨_, _, S1, [], [], st0, rs.hide hp, upd_same, .nil, o1⟩, ?_⟩
    rintro i n H ⟨μ, S, acc, us, sp, rs, hpp, ra, o⟩
    have sb : Stp μ1 H1 μ H := sh.trans sp.toStp
    cases n with
    | zero => exact o.elim
    | succ n =>
      unfold compE at o
      split at o
      · rename_i xs es
        obtain ⟨a', h1, vs', h2, h3⟩ := rs.at_ _ _ es
        rw [sb.get ha] at h1; cases h1
        split at o
        · rename_i hx
          refine .inl ⟨⟨vs', .of h2, ?_⟩, fin μ H S acc us sp rs hpp ra o⟩
          rw [← h3.length]
          exact List.getElem?_eq_none_iff.mp hx
        · rename_i d hx
          obtain ⟨v, hv, rv⟩ := h3.get hx
          refine .inr ⟨⟨vs', v, .of h2, hv⟩, fun H => ∃ μ S acc us, StP p (μ1.hide p) (upd H1 p (.lst [])) μ H ∧ RelS X.K X.mg μ H S ∧ H p = some (.lst us) ∧ RepAll X.K X.mg μ H acc us ∧ Out X.K X.mg W σ μ1 H1 (RL X.K X.mg) Q (compE g tc m w l n (i + 1) acc S), fun H' w => ⟨n, Nat.lt_succ_self n, w⟩, fun x H' y => ?_⟩
          obtain ⟨T, z, rfl, hT, rfl, y⟩ := y
          have q := y vs' (.of h2)
          rw [hv] at q; cases q
          have sm : Sm H (upd H T (.tup [.int (i : Int), v])) := .upd hT
          have sx : Step μ H μ (upd H T (.tup [.int (i : Int), v])) := .of_sm sm
          have rx : Rep X.K X.mg μ (upd H T (.tup [.int (i : Int), v])) (.tup [.int (i : Nat), d]) (.ref T) := rep_new_tup rs hT (.cons (rep_int _) (.cons rv .nil))
          have spx := sp.trans (StP.of sx)
          exact lc_turn ((rw1.stp sh).stp spx.toStp) (rs.sm sm) (sm _ _ hpp) (npm spx) (RepAll.step sx _ _ ra) rx o fun μ3 H3 S3 acc' us' s3 rs3 hp3 ra3 o3 => ⟨μ3, S3, acc', us', spx.trans s3, rs3, hp3, ra3, o3⟩
      · exact o.elim
theorem rl_lst {K : PySem.W.Frag} {mg : Str → Option Value} {μ : Mu} {H : Hp} {ds : List D} {v : V} (r : RL K mg μ H ds v) : Rep K mg μ H (.lst ds) v := by
  obtain ⟨p, us, e, h1, n, h2⟩ := r
  unfold Rep
  exact ⟨p, us, e, h1, n, h2⟩
/-- frozen -/
theorem lc_frozen {σ : L2.St} {H : Hp} {Q : VK} {W : WX} (h : tE X W (eComp mi g tc m vs) σ H Q) : tM X (RL X.K X.mg) W (compR mi g tc m vs) σ H Q := by
  obtain ⟨env, S, μ, rl, o⟩ := h
  refine ⟨env, S, μ, rl, (Out.bind (R := RL X.K X.mg) o).mono fun v H1 ⟨μ1, S1, ds, st, rs, r, o1⟩ => o1 μ1 H1 v .refl rs (rl_lst r)⟩
section
variable {scope : Scope} {own : List (Str × Nat)} {W : WX} {ifs : List Expr}
theorem sE_comp (hc : X.calm = true) (hN : X.N.Nodup) (hi : PI X tg iter (tI X W mi)) (ok : BlkOk X.N X.env.scope scope own)
    (hg : ∀ (s : Shared) (H : Hp) (C : Addr) (cl : List (Str × Addr)) (fp : List Addr), PG (X.blk s H scope (compEnvC scope cl C X.env) fp) tg (tGc (X.blk s H scope (compEnvC scope cl C X.env) fp) (own.map (·.2)) g))
    (ht : ∀ (s : Shared) (H : Hp) (C : Addr) (cl : List (Str × Addr)) (fp : List Addr), PTs' (X.blk s H scope (compEnvC scope cl C X.env) fp) ifs tc)
    (he : ∀ (s : Shared) (H : Hp) (C : Addr) (cl : List (Str × Addr)) (fp : List Addr), PE (X.blk s H scope (compEnvC scope cl C X.env) fp) elt (tE (X.blk s H scope (compEnvC scope cl C X.env) fp) W0 m)) (hs : ∀ x, foldedSetIterable iter X.env x = pure x := by intro _; rfl) :
    PE X (.ListComp elt [⟨tg, iter, ifs, 0⟩] scope pos) (tE X W (eComp mi g tc m (own.map (·.2)))) :=
  pe_to (pe_lc (g := tGc X (own.map Prod.snd) g) (tt := tT X W0 tc) (te := tE X W0 m) hc hN hi ok hg ht he hs) fun σ H Q h => lc_sem (lc_frozen h)
theorem sS_setComp {i : Nat} {y : Str} {py spos : Pos} (hc : X.calm = true) (hN : X.N.Nodup) (hy : X.N[i]? = some y) (hyl : X.env.scope.names.lookup y = some .local)
    (hsw : swapsWith (.ListComp elt [⟨tg, iter, ifs, 0⟩] scope pos) (some (.Name y py)) spos.line X.env = pure true) (hi : PI X tg iter (tI X W mi)) (ok : BlkOk X.N X.env.scope scope own)
    (hg : ∀ (s : Shared) (H : Hp) (C : Addr) (cl : List (Str × Addr)) (fp : List Addr), PG (X.blk s H scope (compEnvC scope cl C X.env) fp) tg (tGc (X.blk s H scope (compEnvC scope cl C X.env) fp) (own.map (·.2)) g))
    (ht : ∀ (s : Shared) (H : Hp) (C : Addr) (cl : List (Str × Addr)) (fp : List Addr), PTs' (X.blk s H scope (compEnvC scope cl C X.env) fp) ifs tc)
    (he : ∀ (s : Shared) (H : Hp) (C : Addr) (cl : List (Str × Addr)) (fp : List Addr), PE (X.blk s H scope (compEnvC scope cl C X.env) fp) elt (tE (X.blk s H scope (compEnvC scope cl C X.env) fp) W0 m)) (hs : ∀ x, foldedSetIterable iter X.env x = pure x := by intro _; rfl) :
    PS X (.Assign [.Name y py] (.ListComp elt [⟨tg, iter, ifs, 0⟩] scope pos) spos) (tS X W (sSet i (eComp mi g tc m (own.map (·.2))))) :=
  ps_to (ps_setLc (g := tGc X (own.map Prod.snd) g) (tt := tT X W0 tc) (te := tE X W0 m) hc hN hy hyl hsw hi ok hg ht he hs) fun D σ H ⟨env, S, μ, rl, o⟩ => lc_sem (lc_frozen ⟨env, S, μ, rl, (OutS.rs rl.env o).mono fun x H1 ⟨μ1, S1, d, st, rs, r, o1⟩ => o1 μ1 H1 _ .refl ((rl.env.step st).set r) rs⟩)
end
end
end DL

set_option Elab.async false
set_option linter.all false
set_option maxRecDepth 100000
/-! DL9: defs, calls, methods, instances. -/
namespace DL
open PySem PySem.Spec PyProof.Rows L2
abbrev MF := List D → Sto → Res D
def chk (n : Nat) (m : MF) : MF := fun ds S => if ds.length = n then m ds S else .stuck
/-- what a def promises -/
def spD (K : PySem.W.Frag) (mg : Str → Option Value) (n : Nat) (m : MF) : Sp := fun vs H Q E => ∃ ds S μ, RelS K mg μ H S ∧ RepAll K mg μ H ds vs ∧ Out K mg (fun c d _ H' => E c d H') [] μ H (fun μ H a b => Rep K mg μ H a b) Q (chk n m ds S)
theorem spD_len {K : PySem.W.Frag} {mg : Str → Option Value} {n : Nat} {m : MF} {vs : List V} {H : Hp} {Q : VK} {E : XK} (h : spD K mg n m vs H Q E) : vs.length = n := by
  obtain ⟨ds, S, μ, rs, ra, o⟩ := h
  unfold chk at o
  split at o
  · rename_i e; rw [← ra.length]; exact e
  · exact o.elim
structure FnM (P : Program) (w : World) (K : PySem.W.Frag) (mg : Str → Option Value) (base : Heap) (k : Nat) (f : Addr) (fd : FuncData) (ps : List Str) (m : MF) : Prop where
  ok : FnOk P w K mg base (L2.CX P w) k f fd ps (spD K mg ps.length m)
  kp : PySem.W.keepIn K (.ref f) = true
  b : Binds K fd ps []
/-- a body, run -/
def bodyM (n : Nat) (m : MS) : MF := fun ds S => match m (ds.map some ++ List.replicate n none) S with
  | .next _ S => .ok .none S
  | .ret d S => .ok d S
  | .exc e _ S => .exc e S
  | _ => .stuck
theorem relE_start {K : PySem.W.Frag} {mg : Str → Option Value} {μ : Mu} {H : Hp} {N : List Str} : ∀ {ds : List D} {vs : List V}, RepAll K mg μ H ds vs → RelE K mg μ H (ds.map some ++ List.replicate (N.length - ds.length) none) (L2.start N vs) := fun {ds vs} r => by
  unfold L2.start
  have hl := r.length
  refine ⟨by simp [hl], fun i d e => ?_⟩
  by_cases hi : i < ds.length
  · rw [List.getElem?_append_left (by simpa using hi), List.getElem?_map] at e
    obtain ⟨d', h1, h2⟩ := Option.map_eq_some_iff.mp e
    cases h2
    obtain ⟨v, h3, h4⟩ := r.get h1
    exact ⟨v, by rw [List.getElem?_append_left (by rw [List.length_map, ← hl]; exact hi), List.getElem?_map, h3]; rfl, h4⟩
  · rw [List.getElem?_append_right (by simpa using Nat.le_of_not_lt hi)] at e
    have := List.getElem?_replicate (a := (none : Option D)) (n := N.length - ds.length) (i := i - (ds.map some).length)
    rw [this] at e
    split at e <;> cases e
/-- THE RULE for a def -/
theorem fn_ok {P : Program} {w : World} {K : PySem.W.Frag} {mg : Str → Option Value} {base : Heap} {x qual : Str} {st : Stmt} {f : Addr} {fd : FuncData} {N ps : List Str} {k n : Nat} {m : MS} (F : Fun K x qual st f fd) (S : FnScope N ps (defScope st)) (b : Binds K fd ps []) (hn : N.length - ps.length = n)
    (hbody : ∀ X : Cx, X.prog = P → X.w = w → X.K = K → X.mg = mg → X.base = base → X.N = N → X.env.scope = defScope st → X.calm = true → (∀ x, X.fn x = true) → PassesOwn (model X.prog X.w) X.A X.env X.xe → Room k X.A → ∀ W, Takes X W → PSs X (defBody st) (tS X W m)) : FnM P w K mg base (k + 1) f fd ps (bodyM n m) := by
  refine ⟨F.okX S (fun vs H Q E h => spD_len h) (fun cdv A outer s H vs Q E hr h => ?_), F.kp, b⟩
  refine ⟨_, hbody _ rfl rfl rfl rfl rfl rfl rfl rfl (fun _ => rfl) (passes_of rfl) hr (fun cls d _ H => E cls d H) (takes_of rfl rfl rfl rfl), ?_⟩
  obtain ⟨ds, So, μ, rs, ra, o⟩ := h
  unfold chk at o
  split at o
  · rename_i hl
    have e0 : n = N.length - ds.length := by rw [hl]; exact hn.symm
    refine ⟨ds.map some ++ List.replicate n none, So, μ, ⟨by rw [e0]; exact relE_start ra, rs⟩, ?_⟩
    unfold bodyM at o
    cases hm : m (ds.map some ++ List.replicate n none) So with
    | next e S1 => rw [hm] at o; exact fun μ' H' σ' st re rs' => o μ' H' .non st rs' rep_none
    | ret d S1 => rw [hm] at o; exact fun μ' H' v st rs' r => o μ' H' v st rs' r
    | exc e v S1 => rw [hm] at o; exact fun μ' H' σ' c d st re rs' r => o μ' H' c d st rs' r
    | brk e S1 => rw [hm] at o; exact o.elim
    | cont e S1 => rw [hm] at o; exact o.elim
    | stuck => rw [hm] at o; exact o
  · exact o.elim
/-! ### calls -/
def eCall (n : Nat) (m : MF) (r : MA) : ME := fun env S => (r env S).bind fun ds S => chk n m ds S
theorem out_sig {K : PySem.W.Frag} {mg : Str → Option Value} {μ : Mu} {H : Hp} {α β : Type} {W : WX} {R : Mu → Hp → α → β → Prop} {Q : β → Hp → Prop} {σ : L2.St} {r : Res α} (o : Out K mg W σ μ H R Q r) : Out K mg (fun c d _ H' => WE W σ c d H') [] μ H R Q r := by
  cases r with
  | ok a S => exact o
  | exc e S => exact o
  | stuck => exact o
section
variable {X : Cx} {W : WX} {k : Nat} {f C : Addr} {fd : FuncData} {ps : List Str} {m mi : MF} {x nm cn : Str} {p pos apos : Pos} {e o : Expr} {es : List Expr} {r : MA} {ma mv : ME}
theorem t_call {σ : L2.St} {H : Hp} {Q : VK} (h : tE X W (eCall ps.length m r) σ H Q) : tCallSD (spD X.K X.mg ps.length m) [] (WE W) (tAs X W r) σ H Q := by
  obtain ⟨env, S, μ, rl, o⟩ := h
  exact ⟨env, S, μ, rl, (Out.bind o).mono fun vs H1 ⟨μ1, S1, ds, st, rs, rd, o1⟩ => ⟨ds, S1, μ1, rs, by rw [List.append_nil]; exact rd, out_sig o1⟩⟩
theorem sE_call (F : FnM X.prog X.w X.K X.mg X.base k f fd ps m) (hr : Room k X.A) (hg : Gl X x) (hm : X.mg x = some (.ref f)) (tk : Takes X W)
    (ha : PA X (e :: es) (tAs X W r)) (hdb : (x == ("__debug__" : Str)) = false := by decide) (he : starEach (e :: es) X.env = (false, eval e X.env) :: starEach es X.env := by rfl) (hpl : (backTo pos (starEach es X.env)).any (·.1) = false := by rfl) :
    PE X (.Call (.Name x p) (e :: es) [] pos) (tE X W (eCall ps.length m r)) := pe_to (pe_callSD F.ok hr hg hm F.kp F.b .nil (passAt tk) ha hdb he hpl) fun _ _ _ h => t_call h
def eMeth (cn nm : Str) (n : Nat) (m : MF) (ma : ME) (r : MA) : ME := fun env S => (ma env S).bind fun d S => match d with
  | .loc l => match S[l]? with
    | some (.ins C fs) => if C = cn ∧ (fs.map (·.1)).contains nm = false then (r env S).bind fun ds S => chk n m (.loc l :: ds) S else .stuck
    | _ => .stuck
  | _ => .stuck
theorem lookup_none_zip {nm : Str} : ∀ {ns : List Str} {vs : List V}, ns.contains nm = false → (ns.zip vs).lookup nm = none
  | [], vs, _ => by simp
  | n :: ns, [], _ => by simp
  | n :: ns, v :: vs, h => by
    rw [List.contains_cons, Bool.or_eq_false_iff] at h
    rw [List.zip_cons_cons, List.lookup_cons, h.1]
    exact lookup_none_zip h.2
theorem sE_meth {pl : Sem Bool} (he : PE X o (tE X W ma)) (hC : X.mg cn = some (.ref C)) (c : Cls X.K C) (hm : Meth X.K C nm f) (F : FnM X.prog X.w X.K X.mg X.base k f fd ps m) (hr : Room k X.A) (tk : Takes X W) (ha : PA X (e :: es) (tAs X W r))
    (hst : starEach (e :: es) X.env = (false, eval e X.env) :: starEach es X.env := by rfl) (hpl : (backTo pos (starEach es X.env)).any (·.1) = false := by rfl)
    (ht : eval (.Call (.Attribute o nm apos) (e :: es) [] pos) X.env = (do
      let ov ← eval o X.env
      standAt apos.atName
      let (f, first) ← holding [ov] (getMethod ov nm pl)
      callWith pos f first (backTo pos (starEach (e :: es) X.env)) (backToKw pos (keywordEach [] X.env))) := by rfl) :
    PE X (.Call (.Attribute o nm apos) (e :: es) [] pos) (tE X W (eMeth cn nm ps.length m ma r)) := by
  refine ⟨fun pins s σ H Q I ⟨env, S, μ, rl, o⟩ => ?_⟩
  refine PySem.W.methodCall_KW (pl := pl) (thn (he.run pins s σ H _ I ⟨env, S, μ, rl, Out.bind o⟩) fun u s1 ⟨x, H1, I1, rx, μ1, S1, d, st, rs, rd, o1⟩ => ?_) ht
  cases d with
  | loc l =>
    unfold Rep at rd
    obtain ⟨a, rfl, hμ⟩ := rd
    dsimp only at o1
    split at o1
    · rename_i C' fs es'
      split at o1
      · rename_i hcn
        obtain ⟨rfl, hnm⟩ := hcn
        obtain ⟨a', h1, Ca, dx, vs, hC', ha', hfs⟩ := rs.at_ _ _ es'
        rw [hμ] at h1; cases h1
        rw [hC] at hC'; cases hC'
        obtain rfl : u = Value.ref a := rx
        refine getmeth_ok I1 ha' c hm (lookup_none_zip hnm) ?_
        refine PySem.W.callWith_K (first := [.ref a]) (h₀ := X.base) I.ok.mod.kin hm.kp (thn (ha.run pos pins s1 σ H1 _ I1 ⟨env, S1, μ1, ⟨rl.env.step st, rs⟩, Out.bind o1⟩) fun us s2 ⟨ws, H2, I2, rw2, μ2, S2, ds, st2, rs2, rds, o2⟩ => ⟨I2.kIn, ?_⟩) hst hpl
        refine run_fnSD (us := .ref a :: us) (vs := .ref a :: ws) (E := WE W) F.ok hr F.b .nil (passAt tk σ) I2 (.cons rfl rw2) ⟨_, S2, μ2, rs2, ?_, out_sig o2⟩
        rw [List.append_nil]
        exact .cons (by unfold Rep; exact ⟨a, rfl, st2.get hμ⟩) rds
      · exact o1.elim
    · exact o1.elim
  | _ => exact o1.elim
theorem sE_meth0 {pl : Sem Bool} (he : PE X o (tE X W ma)) (hC : X.mg cn = some (.ref C)) (c : Cls X.K C) (hm : Meth X.K C nm f) (F : FnM X.prog X.w X.K X.mg X.base k f fd ps m) (hr : Room k X.A) (tk : Takes X W)
    (ht : eval (.Call (.Attribute o nm apos) [] [] pos) X.env = (do
      let ov ← eval o X.env
      standAt apos.atName
      let (f, first) ← holding [ov] (getMethod ov nm pl)
      callWith pos f first (backTo pos (starEach [] X.env)) (backToKw pos (keywordEach [] X.env))) := by rfl) :
    PE X (.Call (.Attribute o nm apos) [] [] pos) (tE X W (eMeth cn nm ps.length m ma aNil)) := by
  refine ⟨fun pins s σ H Q I ⟨env, S, μ, rl, o⟩ => ?_⟩
  refine PySem.W.methodCall_KW (pl := pl) (thn (he.run pins s σ H _ I ⟨env, S, μ, rl, Out.bind o⟩) fun u s1 ⟨x, H1, I1, rx, μ1, S1, d, st, rs, rd, o1⟩ => ?_) ht
  cases d with
  | loc l =>
    unfold Rep at rd
    obtain ⟨a, rfl, hμ⟩ := rd
    dsimp only at o1
    split at o1
    · rename_i C' fs es'
      split at o1
      · rename_i hcn
        obtain ⟨rfl, hnm⟩ := hcn
        obtain ⟨a', h1, Ca, dx, vs, hC', ha', hfs⟩ := rs.at_ _ _ es'
        rw [hμ] at h1; cases h1
        rw [hC] at hC'; cases hC'
        obtain rfl : u = Value.ref a := rx
        refine getmeth_ok I1 ha' c hm (lookup_none_zip hnm) ?_
        refine PySem.W.callWith_K0 (first := [.ref a]) I1.kIn hm.kp (run_fnSD (us := [.ref a]) (vs := [.ref a]) (E := WE W) F.ok hr F.b .nil (passAt tk σ) I1 (.cons rfl .nil) ⟨[.loc l], S1, μ1, rs, .cons (by unfold Rep; exact ⟨a, rfl, hμ⟩) .nil, out_sig o1⟩)
      · exact o1.elim
    · exact o1.elim
  | _ => exact o1.elim
/-! ### new instances -/
def eMake (cn : Str) (n : Nat) (mi : MF) (r : MA) : ME := fun env S => (r env S).bind fun ds S => (chk n mi (.loc S.length :: ds) (S ++ [.ins cn []])).bind fun d S' => match d with
  | .none => .ok (.loc S.length) S'
  | _ => .stuck
theorem run_makeS {pins : List (Addr × Obj)} {σ : L2.St} {H : Hp} {s : Shared} {Q : VK} {us : List Value} {vs : List V} {CX : CXT} {sp : Sp} {dvs : List V} {ds : List Value} {E : XK} (M : Mk X.K C f) (F : FnOk X.prog X.w X.K X.mg X.base CX k f fd ps sp) (hr : Room (k + 1) X.A) (hb : Binds X.K fd ps ds) (hd : Vals dvs ds)
    (hx : PassesAt CX X σ E) (I : L2.Inv X pins σ H s) (r : Vals vs us)
    (h : ∀ x dx, H x = none → H dx = none → dx ≠ x → sp (.ref x :: (vs ++ dvs)) (upd (upd H dx (.own x)) x (.ins C dx [])) (fun v H2 => v = .non ∧ Q (.ref x) H2) E) :
    wpAny (model X.prog X.w) X.A (call (.ref C) us) (EP X pins σ Q) X.xe s := by
  have hq := h (s.heap.objs.size + 1) s.heap.objs.size (I.hok.fresh (Nat.le_succ _)) (I.hok.fresh (Nat.le_refl _)) (Nat.ne_of_lt (Nat.lt_succ_self _))
  have I2 := Inv.made (C := C) I
  have r2 : Vals (V.ref (s.heap.objs.size + 1) :: (vs ++ dvs)) (Value.ref (s.heap.objs.size + 1) :: (us ++ ds)) := .cons rfl (r.append hd)
  have hl : (Value.ref (s.heap.objs.size + 1) :: us ++ ds).length = ps.length := by
    have e := r2.length
    rw [F.len _ _ _ _ hq] at e
    exact e.symm
  refine wpAny_call (make_map (f := f) I.kIn M.makes M.init (beq_iff_eq.mp M.fn) (codeAny_mono (F.run _ X.stack _ _ ⟨Value.ref (s.heap.objs.size + 1) :: us, []⟩ (Value.ref (s.heap.objs.size + 1) :: (us ++ ds)) _ _ E (hr.make C us [])
    (I2.env0.make C us []) (hb _ (Value.ref (s.heap.objs.size + 1) :: us) I2.kIn hl) r2 hq) fun r s' hq' => ?_))
  cases r with
  | error e => exact hx pins _ _ e s' I2 hq'
  | ok fl =>
    cases fl with
    | ret u =>
      obtain ⟨v, H', I3, rv, ev, q3⟩ := I2.after hq'
      subst ev
      exact ⟨rv, ⟨V.ref (s.heap.objs.size + 1), H', I3, rfl, q3⟩⟩
    | next => exact False.elim hq'
    | brk => exact False.elim hq'
    | cont => exact False.elim hq'
/-- a new instance in the store -/
theorem ins_new {K : PySem.W.Frag} {mg : Str → Option Value} {μ : Mu} {H : Hp} {S : Sto} {x dx : Addr} (rs : RelS K mg μ H S) (hC : mg cn = some (.ref C)) (hx : H x = none) (hd : H dx = none) (hne : dx ≠ x) :
    Step μ H (μ.push x) (upd (upd H dx (.own x)) x (.ins C dx [])) ∧ RelS K mg (μ.push x) (upd (upd H dx (.own x)) x (.ins C dx [])) (S ++ [.ins cn []]) ∧ Rep K mg (μ.push x) (upd (upd H dx (.own x)) x (.ins C dx [])) (.loc S.length) (.ref x) := by
  have s1 : Step μ H μ (upd H dx (.own x)) := .of_sm (.upd hd)
  have r1 := rs.sm (Sm.upd (o := .own x) hd)
  have hx' : upd H dx (.own x) x = none := by rw [upd_ne hne.symm]; exact hx
  obtain ⟨a, b, c⟩ := loc_new (ho := .ins C dx []) (o := .ins cn []) r1 hx' ⟨C, dx, [], hC, upd_same, .nil⟩
  exact ⟨s1.trans a, b, c⟩
theorem out_none {K : PySem.W.Frag} {mg : Str → Option Value} {μ : Mu} {H : Hp} {W : WX} {σ : L2.St} {Q : VK} {r : Res D} {l : Nat} {x : Addr} (hl : μ.l[l]? = some x)
    (o : Out K mg W σ μ H (fun μ H a b => Rep K mg μ H a b) Q (r.bind fun d S' => match d with | .none => .ok (.loc l) S' | _ => .stuck)) : Out K mg W σ μ H (fun μ H a b => Rep K mg μ H a b) (fun v H2 => v = .non ∧ Q (.ref x) H2) r := by
  cases r with
  | ok d S =>
    cases d with
    | none =>
      intro μ' H' v st rs r
      have r : Rep K mg μ' H' .none v := r
      unfold Rep at r
      exact ⟨r, o μ' H' (.ref x) st rs (by unfold Rep; exact ⟨x, rfl, st.get hl⟩)⟩
    | _ => exact o.elim
  | exc e S => exact o
  | stuck => exact o
theorem sE_make (hC : X.mg cn = some (.ref C)) (M : Mk X.K C f) (F : FnM X.prog X.w X.K X.mg X.base k f fd ps mi) (hr : Room (k + 1) X.A) (hg : Gl X cn) (tk : Takes X W) (ha : PA X (e :: es) (tAs X W r)) (hdb : (cn == ("__debug__" : Str)) = false := by decide)
    (he : starEach (e :: es) X.env = (false, eval e X.env) :: starEach es X.env := by rfl) (hpl : (backTo pos (starEach es X.env)).any (·.1) = false := by rfl) :
    PE X (.Call (.Name cn p) (e :: es) [] pos) (tE X W (eMake cn ps.length mi r)) := by
  refine ⟨fun pins s σ H Q I ⟨env, S, μ, rl, o⟩ => ?_⟩
  refine wpAny_Call_Name_kw (ld_glob I hg hC ?_ hdb)
  refine PySem.W.callWith_K (h₀ := X.base) I.ok.mod.kin M.kp (thn (ha.run pos pins s σ H _ I ⟨env, S, μ, rl, Out.bind o⟩) fun us s1 ⟨vs, H1, I1, r, μ1, S1, ds, st, rs, rd, o1⟩ => ⟨I1.kIn, ?_⟩) he hpl
  refine run_makeS (E := WE W σ) M F.ok hr F.b .nil (passAt tk σ) I1 r fun x dx hx hd hne => ?_
  obtain ⟨a, b, c⟩ := ins_new rs hC hx hd hne
  refine ⟨.loc S1.length :: ds, _, _, b, ?_, out_sig (out_none ?_ (Out.of_step a o1))⟩
  · rw [List.append_nil]
    exact .cons c (RepAll.step a _ _ rd)
  · unfold Rep at c
    obtain ⟨x', e1, e2⟩ := c
    cases e1
    exact e2
/-! ### fields -/
def eFld (cn f : Str) (ma : ME) : ME := fun env S => (ma env S).bind fun d S => match d with
  | .loc l => match S[l]? with
    | some (.ins C fs) => if C = cn then ofO S (fs.lookup f) else .stuck
    | _ => .stuck
  | _ => .stuck
theorem lookup_zip {K : PySem.W.Frag} {mg : Str → Option Value} {μ : Mu} {H : Hp} {g : Str} : ∀ {fs : List (Str × D)} {vs : List V} {d : D}, RepAll K mg μ H (fs.map (·.2)) vs → fs.lookup g = some d → ∃ v, ((fs.map (·.1)).zip vs).lookup g = some v ∧ Rep K mg μ H d v
  | [], vs, d, _, e => by simp at e
  | (n, a) :: fs, vs, d, r, e => by
    have r : RepAll K mg μ H (a :: fs.map (·.2)) vs := r
    unfold RepAll at r
    obtain ⟨v, q, rfl, r1, r2⟩ := r
    rw [List.lookup_cons] at e
    rw [List.map_cons, List.zip_cons_cons, List.lookup_cons]
    cases h : g == n with
    | true => rw [h] at e; cases e; exact ⟨v, by simp [h], r1⟩
    | false =>
      rw [h] at e
      obtain ⟨v, h1, h2⟩ := lookup_zip r2 e
      exact ⟨v, by simpa [h] using h1, h2⟩
theorem sE_fld {g : Str} (he : PE X e (tE X W ma)) (hC : X.mg cn = some (.ref C)) (c : Cls X.K C) (n : NoAttr X.K C g) (hb : attributeBase e g X.env (eval e X.env) = eval e X.env := by rfl) : PE X (.Attribute e g pos) (tE X W (eFld cn g ma)) :=
  pe_to (pe_fld he hb) fun σ H Q ⟨env, S, μ, rl, o⟩ => ⟨env, S, μ, rl, (Out.bind o).mono fun x H1 ⟨μ1, S1, d, st, rs, rd, o1⟩ => by
    cases d with
    | loc l =>
      unfold Rep at rd
      obtain ⟨a, rfl, hμ⟩ := rd
      dsimp only at o1
      split at o1
      · rename_i C' fs es'
        split at o1
        · rename_i hcn
          subst hcn
          obtain ⟨a', h1, Ca, dx, vs, hC', ha', hfs⟩ := rs.at_ _ _ es'
          rw [hμ] at h1; cases h1
          rw [hC] at hC'; cases hC'
          cases el : fs.lookup g with
          | none => rw [el] at o1; exact o1.elim
          | some d' =>
            rw [el] at o1
            obtain ⟨v, h3, h4⟩ := lookup_zip hfs el
            exact ⟨a, C, dx, _, v, rfl, ha', c, n, h3, o1 μ1 H1 v .refl rs h4⟩
        · exact o1.elim
      · exact o1.elim
    | _ => exact o1.elim⟩
def putD (f : Str) (v : D) : List (Str × D) → List (Str × D)
  | [] => [(f, v)]
  | (g, x) :: r => if g = f then (g, v) :: r else (g, x) :: putD f v r
theorem putD_zip {K : PySem.W.Frag} {mg : Str → Option Value} {μ : Mu} {H : Hp} {g : Str} {d : D} {v : V} (rd : Rep K mg μ H d v) : ∀ {fs : List (Str × D)} {vs : List V}, RepAll K mg μ H (fs.map (·.2)) vs →
    ∃ ws, putF g v ((fs.map (·.1)).zip vs) = ((putD g d fs).map (·.1)).zip ws ∧ RepAll K mg μ H ((putD g d fs).map (·.2)) ws
  | [], vs, r => ⟨[v], by simp [putF, putD], .cons rd .nil⟩
  | (n, a) :: fs, vs, r => by
    have r : RepAll K mg μ H (a :: fs.map (·.2)) vs := r
    unfold RepAll at r
    obtain ⟨u, q, rfl, r1, r2⟩ := r
    rw [List.map_cons, List.zip_cons_cons]
    unfold putF putD
    by_cases h : n = g
    · rw [if_pos h, if_pos h]
      exact ⟨v :: q, rfl, .cons rd r2⟩
    · rw [if_neg h, if_neg h]
      obtain ⟨ws, h1, h2⟩ := putD_zip rd r2
      exact ⟨u :: ws, by rw [h1]; rfl, .cons r1 h2⟩
def sFldM (cn f : Str) (ma mv : ME) : MS := fun env S => (mv env S).rs env fun d S => (ma env S).rs env fun o S => match o with
  | .loc l => match S[l]? with
    | some (.ins C fs) => if C = cn ∧ fs.length < 1000 then .next env (S.set l (.ins C (putD f d fs))) else .stuck
    | _ => .stuck
  | _ => .stuck
theorem ins_put {K : PySem.W.Frag} {mg : Str → Option Value} {μ : Mu} {H : Hp} {S : Sto} {l : Nat} {a C dx : Addr} {g : Str} {d : D} {v : V} {fs : List (Str × D)} {vs : List V} (rs : RelS K mg μ H S) (hC : mg cn = some (.ref C)) (hμ : μ.l[l]? = some a) (ha : H a = some (.ins C dx ((fs.map (·.1)).zip vs)))
    (r : RepAll K mg μ H (fs.map (·.2)) vs) (rd : Rep K mg μ H d v) : Step μ H μ (upd H a (.ins C dx (putF g v ((fs.map (·.1)).zip vs)))) ∧ RelS K mg μ (upd H a (.ins C dx (putF g v ((fs.map (·.1)).zip vs)))) (S.set l (.ins cn (putD g d fs))) := by
  have st : Step μ H μ (upd H a (.ins C dx (putF g v ((fs.map (·.1)).zip vs)))) := Step.write rs hμ (.of ha)
  refine ⟨st, rs.write hμ (.of ha) ?_⟩
  obtain ⟨ws, h1, h2⟩ := putD_zip (g := g) (Rep.step st _ _ rd) (RepAll.step st _ _ r)
  exact ⟨C, dx, ws, hC, by rw [upd_same, h1], h2⟩
theorem sS_fld {g : Str} {value : Expr} {pos' : Pos} (hv : PE X value (tE X W mv)) (ha : PE X o (tE X W ma)) (hC : X.mg cn = some (.ref C)) (c : Cls X.K C) (n : NoAttr X.K C g) (hs : swapsWith value (some (.Attribute o g pos')) pos.line X.env = pure false := by rfl) :
    PS X (.Assign [.Attribute o g pos'] value pos) (tS X W (sFldM cn g ma mv)) :=
  ps_to (ps_fld ha hv hs) fun D' σ H ⟨env, S, μ, rl, o⟩ => ⟨env, S, μ, rl, (OutS.rs rl.env o).mono fun y H1 ⟨μ1, S1, d, st, rs, rd, o1⟩ => ⟨env, S1, μ1, ⟨rl.env.step st, rs⟩, (OutS.rs (rl.env.step st) o1).mono fun x H2 ⟨μ2, S2, od, st2, rs2, ro, o2⟩ => by
    cases od with
    | loc l =>
      unfold Rep at ro
      obtain ⟨a, rfl, hμ⟩ := ro
      dsimp only at o2
      split at o2
      · rename_i C' fs es'
        split at o2
        · rename_i hcn
          obtain ⟨hcn, hlen⟩ := hcn
          subst hcn
          obtain ⟨a', h1, Ca, dx, vs, hC', ha', hfs⟩ := rs2.at_ _ _ es'
          rw [hμ] at h1; cases h1
          rw [hC] at hC'; cases hC'
          obtain ⟨sw, rw'⟩ := ins_put (g := g) rs2 hC hμ ha' hfs (Rep.step st2 _ _ rd)
          refine ⟨a, C, dx, _, rfl, ha', c, n, ?_, o2 μ2 _ σ sw (((rl.env.step st).step st2).step sw) rw'⟩
          have := hfs.length
          simp only [List.length_map] at this
          simp [← this, hlen]
        · exact o2.elim
      · exact o2.elim
    | _ => exact o2.elim⟩⟩
end
end DL

set_option Elab.async false
set_option linter.all false
set_option maxRecDepth 100000
/-! DL10: built-ins by name, methods of built-in types. -/
namespace DL
open PySem PySem.Spec PyProof.Rows L2
abbrev BF := Sto → List D → Option D
def rB (K : PySem.W.Frag) (mg : Str → Option Value) (f : BF) : List V → Hp → VK → Prop := fun xs H Q =>
  ∃ μ S ds d, RelS K mg μ H S ∧ RepAll K mg μ H ds xs ∧ f S ds = some d ∧ ∀ H' v, Sm H H' → Rep K mg μ H' d v → Q v H'
def eB (f : BF) (r : MA) : ME := fun env S => (r env S).bind fun ds S => ofO S (f S ds)
section
variable {X : Cx} {W : WX} {e : Expr} {es : List Expr} {p pos : Pos} {r : MA} {f : BF} {x : Str} {id T : String}
theorem t_b {σ : L2.St} {H : Hp} {Q : VK} (h : tE X W (eB f r) σ H Q) : tCB (rB X.K X.mg f) (tAs X W r) σ H Q := by
  obtain ⟨env, S, μ, rl, o⟩ := h
  refine ⟨env, S, μ, rl, (Out.bind o).mono fun vs H1 ⟨μ1, S1, ds, st, rs, rd, o1⟩ => ?_⟩
  cases e : f S1 ds with
  | none => rw [e] at o1; exact o1.elim
  | some d => rw [e] at o1; exact ⟨μ1, S1, ds, d, rs, rd, e, fun H' v sm r => o1 μ1 H' v (.of_sm sm) (rs.sm sm) r⟩
theorem sE_b (hc : CallR X (.builtin id) (rB X.K X.mg f)) (hg : Gl X x) (hm : X.mg x = none) (hv : bootBuiltins x = some (.builtin id)) (ha : PA X (e :: es) (tAs X W r)) (hn : x ≠ "__name__" := by decide) (hdb : (x == ("__debug__" : Str)) = false := by decide)
    (he : starEach (e :: es) X.env = (false, eval e X.env) :: starEach es X.env := by rfl) (hpl : (backTo pos (starEach es X.env)).any (·.1) = false := by rfl) : PE X (.Call (.Name x p) (e :: es) [] pos) (tE X W (eB f r)) :=
  pe_to (pe_callB hc hg hm hv ha hn hdb he hpl) fun _ _ _ h => t_b h
theorem sE_bt (hc : CallR X (.type T) (rB X.K X.mg f)) (hg : Gl X x) (hm : X.mg x = none) (hv : bootBuiltins x = some (.type T)) (ha : PA X (e :: es) (tAs X W r)) (hn : x ≠ "__name__" := by decide) (hdb : (x == ("__debug__" : Str)) = false := by decide)
    (he : starEach (e :: es) X.env = (false, eval e X.env) :: starEach es X.env := by rfl) (hpl : (backTo pos (starEach es X.env)).any (·.1) = false := by rfl) : PE X (.Call (.Name x p) (e :: es) [] pos) (tE X W (eB f r)) :=
  pe_to (pe_callTy hc hg hm hv ha hn hdb he hpl) fun _ _ _ h => t_b h
end
theorem callR_to {X : Cx} {f : Value} {r r' : List V → Hp → VK → Prop} (h : CallR X f r) (i : ∀ xs H Q, r' xs H Q → r xs H Q) : CallR X f r' := fun pins s σ H xs us Q I rx w => h pins s σ H xs us Q I rx (i _ _ _ w)
/-! ### len -/
def fLen (S : Sto) (ds : List D) : Option D := match ds with
  | [d] => match view S d with
    | .tup xs => some (.int xs.length)
    | .lst xs => some (.int xs.length)
    | .ro xs => some (.int xs.length)
    | .str z => if z.length ≤ 1000000 then some (.int z.length) else none
    | .loc l => match S[l]? with
      | some (.dct false kvs) => some (.int kvs.length)
      | _ => none
    | _ => none
  | _ => none
theorem zip_len {κ : Type} {K : PySem.W.Frag} {mg : Str → Option Value} {μ : Mu} {H : Hp} {kvs : List (D × D)} {ks : List κ} {g : κ → D} {vs : List V} (e : kvs.map (·.1) = ks.map g) (r : RepAll K mg μ H (kvs.map (·.2)) vs) : (ks.zip vs).length = kvs.length := by
  have h1 := congrArg List.length e
  have h2 := r.length
  simp only [List.length_map] at h1 h2
  rw [List.length_zip, ← h1, ← h2, Nat.min_self]
section
variable {X : Cx}
theorem c_len : CallR X (.builtin "len") (rB X.K X.mg fLen) := by
  intro pins s σ H xs us Q I rx ⟨μ, S, ds, d, rs, ra, e, q⟩
  unfold fLen at e
  split at e
  · rename_i d0
    obtain ⟨v, rfl, r1⟩ := repAll1 ra
    have rw0 := rs.view r1
    split at e
    · rename_i ys ev
      rw [ev] at rw0
      cases e
      obtain ⟨a, vs, rfl, h, l, _⟩ := rw0.tup
      exact call_len pins s σ H _ us Q I rx ⟨_, ys.length, rfl, .inr ⟨vs, .inl h, l.length⟩, q H _ .rfl (rep_int _)⟩
    · rename_i ys ev
      rw [ev] at rw0
      cases e
      obtain ⟨a, vs, rfl, h, l⟩ := rw0
      exact call_len pins s σ H _ us Q I rx ⟨_, ys.length, rfl, .inl ⟨vs, .of h, l.length⟩, q H _ .rfl (rep_int _)⟩
    · rename_i ys ev
      rw [ev] at rw0
      cases e
      have rw0 : Rep X.K X.mg μ H (.ro ys) v := rw0
      unfold Rep at rw0
      obtain ⟨a, vs, rfl, h, l⟩ := rw0
      exact call_len pins s σ H _ us Q I rx ⟨_, ys.length, rfl, .inl ⟨vs, h.sq, l.length⟩, q H _ .rfl (rep_int _)⟩
    · rename_i z ev
      rw [ev] at rw0
      split at e
      · rename_i hz
        cases e
        have := rw0.str
        subst this
        exact call_len pins s σ H _ us Q I rx ⟨_, z.length, rfl, ⟨line_big hz, rfl⟩, q H _ .rfl (rep_int _)⟩
      · cases e
    · rename_i l ev
      rw [ev] at rw0
      have rw0 : Rep X.K X.mg μ H (.loc l) v := rw0
      unfold Rep at rw0
      obtain ⟨a, rfl, hμ⟩ := rw0
      split at e
      · rename_i kvs es
        cases e
        obtain ⟨a', h1, vs, ks, ⟨h2, hk⟩, lr⟩ := rs.at_ _ _ es
        rw [hμ] at h1; cases h1
        exact call_lenD pins s σ H _ us Q I rx ⟨a, _, rfl, h2, by rw [zip_len hk lr]; exact q H _ .rfl (rep_int _)⟩
      · cases e
    · cases e
  · cases e
end
/-! ### isinstance -/
def tyOf (S : Sto) : D → Option String
  | .none => some "NoneType"
  | .bool _ => some "bool"
  | .int _ => some "int"
  | .str _ => some "str"
  | .tup _ => some "tuple"
  | .tpn _ => some "tuple"
  | .lst _ => some "list"
  | .loc l => match S[l]? with
    | some (.lst _) => some "list"
    | some (.dct _ _) => some "dict"
    | _ => none
  | _ => none
def isTy (t n : String) : Bool := t == n || (t == "bool" && n == "int")
def knownTy (n : String) : Bool := n == "int" || n == "bool" || n == "str" || n == "tuple" || n == "list" || n == "dict"
def tysOf : List D → Option (List String)
  | [] => some []
  | .ty n :: cs => if knownTy n then (tysOf cs).map (n :: ·) else none
  | _ :: _ => none
def fIsi (S : Sto) (ds : List D) : Option D := match ds with
  | [x, .ty n] => match tyOf S x with
    | some t => if knownTy n then some (.bool (isTy t n)) else none
    | none => none
  | [x, .tup cs] => match tyOf S x with
    | some t => (tysOf cs).map fun ns => .bool (ns.any (isTy t))
    | none => none
  | _ => none
theorem kit_all : ∀ t ∈ ["NoneType", "bool", "int", "str", "tuple", "list", "dict"], ∀ n ∈ ["int", "bool", "str", "tuple", "list", "dict"], kitB t n = some (isTy t n) := by decide +kernel
theorem known_mem {n : String} (h : knownTy n = true) : n ∈ ["int", "bool", "str", "tuple", "list", "dict"] := by
  unfold knownTy at h
  simp only [Bool.or_eq_true, beq_iff_eq] at h
  simp only [List.mem_cons, List.not_mem_nil, or_false]
  rcases h with ((((h | h) | h) | h) | h) | h <;> simp [h]
section
variable {K : PySem.W.Frag} {mg : Str → Option Value} {μ : Mu} {H : Hp} {S : Sto}
theorem tyOf_ok (rs : RelS K mg μ H S) {x : D} {v : V} {t : String} (r : Rep K mg μ H x v) (e : tyOf S x = some t) : TyX K H v (.type t) ∧ t ∈ ["NoneType", "bool", "int", "str", "tuple", "list", "dict"] := by
  cases x with
  | none => cases e; unfold Rep at r; subst r; exact ⟨.base .non, by decide⟩
  | bool b => cases e; unfold Rep at r; subst r; exact ⟨.base (.bl _), by decide⟩
  | int b => cases e; unfold Rep at r; subst r; exact ⟨.base (.int _), by decide⟩
  | str b => cases e; unfold Rep at r; subst r; exact ⟨.base (.str _), by decide⟩
  | tup b => cases e; unfold Rep at r; obtain ⟨a, vs, rfl, h, _⟩ := r; exact ⟨.base (.tup h), by decide⟩
  | tpn b => cases e; unfold Rep at r; obtain ⟨a, vs, o, rfl, ⟨h, _⟩, _⟩ := r; exact ⟨.fTuple h, by decide⟩
  | lst b => cases e; unfold Rep at r; obtain ⟨a, vs, rfl, h, _⟩ := r; exact ⟨.base (.lst h), by decide⟩
  | loc l =>
    unfold Rep at r
    obtain ⟨a, rfl, hμ⟩ := r
    have e : (match S[l]? with | some (.lst _) => some "list" | some (.dct _ _) => some "dict" | _ => none) = some t := e
    split at e
    · rename_i xs es
      cases e
      obtain ⟨a', h1, vs, h2, _⟩ := rs.at_ _ _ es
      rw [hμ] at h1; cases h1
      exact ⟨.base (.lst h2), by decide⟩
    · rename_i t kvs es
      cases e
      obtain ⟨a', h1, ro⟩ := rs.at_ _ _ es
      rw [hμ] at h1; cases h1
      cases t with
      | false => obtain ⟨vs, ks, ⟨h2, _⟩, _⟩ := ro; exact ⟨.base (.dK h2), by decide⟩
      | true => obtain ⟨vs, ks, ⟨h2, _⟩, _⟩ := ro; exact ⟨.base (.dT h2), by decide⟩
    · cases e
  | _ => cases e
theorem tysOf_ok {t : String} (ht : t ∈ ["NoneType", "bool", "int", "str", "tuple", "list", "dict"]) : ∀ {cs : List D} {vs : List V} {ns : List String}, RepAll K mg μ H cs vs → tysOf cs = some ns → ∃ us, Paired ClsV vs us ∧ PySem.W.kitAny K (.type t) us = some (ns.any (isTy t))
  | [], vs, ns, r, e => by
    unfold RepAll at r; subst r
    cases e
    exact ⟨[], .nil, rfl⟩
  | c :: cs, vs, ns, r, e => by
    unfold RepAll at r
    obtain ⟨v, q, rfl, r1, r2⟩ := r
    cases c with
    | ty n =>
      unfold Rep at r1; subst r1
      unfold tysOf at e
      split at e
      · rename_i hk
        obtain ⟨ns', h1, rfl⟩ := Option.map_eq_some_iff.mp e
        have hkit := kit_ty (K := K) (kit_all t ht n (known_mem hk))
        obtain ⟨us, h2, h3⟩ := tysOf_ok ht r2 h1
        refine ⟨.type n :: us, .cons (.ty n) h2, kitAny_cons hkit (fun h => ?_) fun h => ?_⟩
        · rw [List.any_cons, h, Bool.false_or]; exact h3
        · rw [List.any_cons, h, Bool.true_or]
      · cases e
    | _ => cases e
end
section
variable {X : Cx}
theorem c_isi : CallR X (.builtin "isinstance") (rB X.K X.mg fIsi) := by
  intro pins s σ H xs us Q I rx ⟨μ, S, ds, d, rs, ra, e, q⟩
  unfold fIsi at e
  split at e
  · rename_i x0 n
    obtain ⟨v, w, rfl, r1, r2⟩ := repAll2 ra
    split at e
    · rename_i t et
      split at e
      · rename_i hk
        cases e
        obtain ⟨h1, h2⟩ := tyOf_ok rs r1 et
        unfold Rep at r2; subst r2
        exact call_isi pins s σ H _ us Q I rx ⟨v, .ty n, .type t, .type n, _, rfl, .ty n, h1, kit_ty (kit_all t h2 n (known_mem hk)), q H _ .rfl (rep_bool _)⟩
      · cases e
    · cases e
  · rename_i x0 cs
    obtain ⟨v, w, rfl, r1, r2⟩ := repAll2 ra
    split at e
    · rename_i t et
      obtain ⟨ns, h3, rfl⟩ := Option.map_eq_some_iff.mp e
      obtain ⟨h1, h2⟩ := tyOf_ok rs r1 et
      unfold Rep at r2
      obtain ⟨tp, vs, rfl, htp, _, rcs⟩ := r2
      obtain ⟨ts, h4, h5⟩ := tysOf_ok h2 rcs h3
      exact call_isiT pins s σ H _ us Q I rx ⟨v, tp, vs, .type t, ts, _, rfl, htp, h4, h1, h5, q H _ .rfl (rep_bool _)⟩
    · cases e
  · cases e
/-! ### int, str, min, max, sum, all, tuple, list -/
def fInt (_ : Sto) (ds : List D) : Option D := match ds with
  | [.int i] => some (.int i)
  | [.bool b] => some (.int (if b then 1 else 0))
  | _ => none
theorem c_int : CallR X (.type "int") (rB X.K X.mg fInt) := callR_to call_int1 fun xs H Q ⟨μ, S, ds, d, rs, ra, e, q⟩ => by
  unfold fInt at e
  split at e
  · cases e
    obtain ⟨v, rfl, r1⟩ := repAll1 ra
    unfold Rep at r1; subst r1
    exact .inl ⟨_, rfl, q H _ .rfl (rep_int _)⟩
  · cases e
    obtain ⟨v, rfl, r1⟩ := repAll1 ra
    unfold Rep at r1; subst r1
    exact .inr ⟨_, rfl, q H _ .rfl (rep_int _)⟩
  · cases e
def fMax2 (_ : Sto) (ds : List D) : Option D := match ds with
  | [.int i, .int j] => some (.int (if j > i then j else i))
  | _ => none
def fMin2 (_ : Sto) (ds : List D) : Option D := match ds with
  | [.int i, .int j] => some (.int (if j < i then j else i))
  | _ => none
theorem c_max2 (hc : X.calm = true) : CallR X (.builtin "max") (rB X.K X.mg fMax2) := callR_to (call_max2 hc) fun xs H Q ⟨μ, S, ds, d, rs, ra, e, q⟩ => by
  unfold fMax2 at e
  split at e
  · cases e
    obtain ⟨v, w, rfl, r1, r2⟩ := repAll2 ra
    unfold Rep at r1 r2; subst r1 r2
    exact ⟨_, _, rfl, q H _ .rfl (rep_int _)⟩
  · cases e
theorem c_min2 (hc : X.calm = true) : CallR X (.builtin "min") (rB X.K X.mg fMin2) := callR_to (call_min2 hc) fun xs H Q ⟨μ, S, ds, d, rs, ra, e, q⟩ => by
  unfold fMin2 at e
  split at e
  · cases e
    obtain ⟨v, w, rfl, r1, r2⟩ := repAll2 ra
    unfold Rep at r1 r2; subst r1 r2
    exact ⟨_, _, rfl, q H _ .rfl (rep_int _)⟩
  · cases e
def intsOf : List D → Option (List Int)
  | [] => some []
  | .int i :: ds => (intsOf ds).map (i :: ·)
  | _ :: _ => none
def boolsOf : List D → Option (List Bool)
  | [] => some []
  | .bool i :: ds => (boolsOf ds).map (i :: ·)
  | _ :: _ => none
theorem ints_rep {K : PySem.W.Frag} {mg : Str → Option Value} {μ : Mu} {H : Hp} : ∀ {ds : List D} {vs : List V} {ns : List Int}, RepAll K mg μ H ds vs → intsOf ds = some ns → vs = ns.map V.int
  | [], vs, ns, r, e => by unfold RepAll at r; cases e; exact r
  | d :: ds, vs, ns, r, e => by
    unfold RepAll at r
    obtain ⟨v, q, rfl, r1, r2⟩ := r
    cases d with
    | int i =>
      unfold intsOf at e
      obtain ⟨ms, h1, rfl⟩ := Option.map_eq_some_iff.mp e
      unfold Rep at r1
      rw [r1, ints_rep r2 h1]; rfl
    | _ => cases e
theorem bools_rep {K : PySem.W.Frag} {mg : Str → Option Value} {μ : Mu} {H : Hp} : ∀ {ds : List D} {vs : List V} {ns : List Bool}, RepAll K mg μ H ds vs → boolsOf ds = some ns → vs = ns.map V.bl
  | [], vs, ns, r, e => by unfold RepAll at r; cases e; exact r
  | d :: ds, vs, ns, r, e => by
    unfold RepAll at r
    obtain ⟨v, q, rfl, r1, r2⟩ := r
    cases d with
    | bool i =>
      unfold boolsOf at e
      obtain ⟨ms, h1, rfl⟩ := Option.map_eq_some_iff.mp e
      unfold Rep at r1
      rw [r1, bools_rep r2 h1]; rfl
    | _ => cases e
def fSum (S : Sto) (ds : List D) : Option D := match ds with
  | [d] => match view S d with
    | .lst xs => (intsOf xs).map fun ns => .int ns.sum
    | _ => none
  | _ => none
def fAll (S : Sto) (ds : List D) : Option D := match ds with
  | [d] => match view S d with
    | .lst xs => (boolsOf xs).map fun ns => .bool (ns.all id)
    | _ => none
  | _ => none
def fAny (S : Sto) (ds : List D) : Option D := match ds with
  | [d] => match view S d with
    | .lst xs => (boolsOf xs).map fun ns => .bool (ns.any id)
    | _ => none
  | _ => none
def minL : List Int → Int
  | [] => 0
  | [x] => x
  | x :: y :: r => min x (minL (y :: r))
theorem minL_mem : ∀ {ns : List Int}, ns ≠ [] → minL ns ∈ ns ∧ ∀ y ∈ ns, minL ns ≤ y
  | [], h => absurd rfl h
  | [x], _ => by simp [minL]
  | x :: y :: r, _ => by
    obtain ⟨h1, h2⟩ := minL_mem (ns := y :: r) (by simp)
    unfold minL
    refine ⟨?_, fun z hz => ?_⟩
    · rcases Int.le_total x (minL (y :: r)) with h | h
      · rw [Int.min_eq_left h]; exact List.mem_cons_self
      · rw [Int.min_eq_right h]; exact List.mem_cons_of_mem _ h1
    · rcases List.mem_cons.mp hz with e | e
      · subst e; exact Int.min_le_left _ _
      · exact Int.le_trans (Int.min_le_right _ _) (h2 z e)
def fMinL (S : Sto) (ds : List D) : Option D := match ds with
  | [d] => match view S d with
    | .lst xs => match intsOf xs with
      | some (n :: ns) => some (.int (minL (n :: ns)))
      | _ => none
    | _ => none
  | _ => none
theorem c_sum (hc : X.calm = true) : CallR X (.builtin "sum") (rB X.K X.mg fSum) := callR_to (cr_sum hc) fun xs H Q ⟨μ, S, ds, d, rs, ra, e, q⟩ => by
  unfold fSum at e
  split at e
  · obtain ⟨v, rfl, r1⟩ := repAll1 ra
    have rw0 := rs.view r1
    split at e
    · rename_i ys ev
      rw [ev] at rw0
      obtain ⟨ns, h1, rfl⟩ := Option.map_eq_some_iff.mp e
      obtain ⟨a, vs, rfl, h, l⟩ := rw0
      exact ⟨a, ns, rfl, by rw [← ints_rep l h1]; exact .of h, q H _ .rfl (rep_int _)⟩
    · cases e
  · cases e
theorem c_all (hc : X.calm = true) : CallR X (.builtin "all") (rB X.K X.mg fAll) := callR_to (cr_all hc) fun xs H Q ⟨μ, S, ds, d, rs, ra, e, q⟩ => by
  unfold fAll at e
  split at e
  · obtain ⟨v, rfl, r1⟩ := repAll1 ra
    have rw0 := rs.view r1
    split at e
    · rename_i ys ev
      rw [ev] at rw0
      obtain ⟨ns, h1, rfl⟩ := Option.map_eq_some_iff.mp e
      obtain ⟨a, vs, rfl, h, l⟩ := rw0
      exact ⟨a, ns, rfl, by rw [← bools_rep l h1]; exact .of h, q H _ .rfl (rep_bool _)⟩
    · cases e
  · cases e
theorem c_any (hc : X.calm = true) : CallR X (.builtin "any") (rB X.K X.mg fAny) := callR_to (cr_any hc) fun xs H Q ⟨μ, S, ds, d, rs, ra, e, q⟩ => by
  unfold fAny at e
  split at e
  · obtain ⟨v, rfl, r1⟩ := repAll1 ra
    have rw0 := rs.view r1
    split at e
    · rename_i ys ev
      rw [ev] at rw0
      obtain ⟨ns, h1, rfl⟩ := Option.map_eq_some_iff.mp e
      obtain ⟨a, vs, rfl, h, l⟩ := rw0
      exact ⟨a, ns, rfl, by rw [← bools_rep l h1]; exact .of h, q H _ .rfl (rep_bool _)⟩
    · cases e
  · cases e
theorem c_minL (hc : X.calm = true) : CallR X (.builtin "min") (rB X.K X.mg fMinL) := callR_to (cr_min hc) fun xs H Q ⟨μ, S, ds, d, rs, ra, e, q⟩ => by
  unfold fMinL at e
  split at e
  · obtain ⟨v, rfl, r1⟩ := repAll1 ra
    have rw0 := rs.view r1
    split at e
    · rename_i ys ev
      rw [ev] at rw0
      split at e
      · rename_i n ns h1
        cases e
        obtain ⟨a, vs, rfl, h, l⟩ := rw0
        refine ⟨a, n :: ns, rfl, by rw [← ints_rep l h1]; exact .of h, by simp, fun m hm hle => ?_⟩
        obtain ⟨k1, k2⟩ := minL_mem (ns := n :: ns) (by simp)
        have : m = minL (n :: ns) := Int.le_antisymm (hle _ k1) (k2 _ hm)
        rw [this]
        exact q H _ .rfl (rep_int _)
      · cases e
    · cases e
  · cases e
def fTup (S : Sto) (ds : List D) : Option D := match ds with
  | [.tup xs] => some (.tup xs)
  | [.tpn xs] => some (.tpn xs)
  | [d] => match view0 S d with
    | .lst xs => some (.tpn xs)
    | _ => none
  | _ => none
/-- tuple(a list): what it makes has no dict -/
theorem call_tuple_ofN : CallR X (.type "tuple") (fun xs H Q => ∃ p ys, xs = [.ref p] ∧ ((SqL X.K H p ys ∧ ∀ l o, H l = none → o.dict = none → Q (.ref l) (upd H l (.frz o (.tup ys)))) ∨ (SqT X.K H p ys ∧ Q (.ref p) H))) := by
  intro pins s σ H xs us Q I r h
  obtain ⟨p, ys, rfl, h⟩ := h
  rcases h with ⟨hq, q⟩ | ⟨hq, q⟩
  · obtain ⟨u, rfl, rx⟩ := vals1 r
    cases rx
    obtain ⟨its, r', pl, hz⟩ := I.list hq
    have hlen := r'.length
    refine call_tuple_list pl.isList (fun h' kp => ?_) (by simp only [List.size_toArray] <;> omega)
    have I1 : L2.Inv X pins σ H { s with heap := h' } := I.kept (t' := s.toks) kp
    have I2 : L2.Inv X pins σ (upd H h'.objs.size (.frz { cls := .type "tuple", data := .seq its.toArray } (.tup ys))) { s with heap := h'.push { cls := .type "tuple", data := .seq its.toArray } } :=
      I1.laid (t' := s.toks) (fun b o e => Heap.get?_push_of_some _ e) (Nat.le_refl _) (show ObjOk X.prog X.w _ _ _ (.frz _ (.tup ys)) from ⟨Heap.get?_push_size _ rfl, hz, its, r', IsTup.new _ _⟩)
    exact ⟨.ref h'.objs.size, _, I2, rfl, q _ _ (I1.hok.fresh (Nat.le_refl _)) rfl⟩
  · exact call_tuple_of pins s σ H _ us Q I r ⟨p, ys, rfl, .inr ⟨hq, q⟩⟩
theorem rep_new_tpn {K : PySem.W.Frag} {mg : Str → Option Value} {μ : Mu} {H : Hp} {S : Sto} (rs : RelS K mg μ H S) {p : Addr} {o : Obj} (hp : H p = none) (ho : o.dict = none) {ds : List D} {vs : List V} (l : RepAll K mg μ H ds vs) :
    Rep K mg μ (upd H p (.frz o (.tup vs))) (.tpn ds) (.ref p) := by
  unfold Rep
  exact ⟨p, vs, o, rfl, ⟨upd_same, ho⟩, rs.fresh hp, RepAll.step (.of_sm (.upd hp)) _ _ l⟩
theorem c_tup : CallR X (.type "tuple") (rB X.K X.mg fTup) := callR_to call_tuple_ofN fun xs H Q ⟨μ, S, ds, d, rs, ra, e, q⟩ => by
  unfold fTup at e
  split at e
  · obtain ⟨v, rfl, r1⟩ := repAll1 ra
    cases e
    have r2 := r1
    unfold Rep at r2
    obtain ⟨a, vs, rfl, h, n, l⟩ := r2
    exact ⟨a, vs, rfl, .inr ⟨.of h, q H _ .rfl r1⟩⟩
  · obtain ⟨v, rfl, r1⟩ := repAll1 ra
    cases e
    have r2 := r1
    unfold Rep at r2
    obtain ⟨a, vs, o, rfl, ⟨h, _⟩, n, l⟩ := r2
    exact ⟨a, vs, rfl, .inr ⟨.inl (.inr ⟨o, h⟩), q H _ .rfl r1⟩⟩
  · obtain ⟨v, rfl, r1⟩ := repAll1 ra
    have rw0 := rs.view0 r1
    split at e
    · rename_i ys ev
      rw [ev] at rw0
      cases e
      obtain ⟨a, vs, rfl, h, l⟩ := rw0
      exact ⟨a, vs, rfl, .inl ⟨.of h, fun p o hp ho => q _ _ (.upd hp) (rep_new_tpn rs hp ho l)⟩⟩
    · cases e
  · cases e
def fList (S : Sto) (ds : List D) : Option D := match ds with
  | [d] => match view S d with
    | .lst xs => some (.lst xs)
    | .tup xs => some (.lst xs)
    | _ => none
  | _ => none
theorem c_list : CallR X (.type "list") (rB X.K X.mg fList) := callR_to call_list_of fun xs H Q ⟨μ, S, ds, d, rs, ra, e, q⟩ => by
  unfold fList at e
  split at e
  · obtain ⟨v, rfl, r1⟩ := repAll1 ra
    have rw0 := rs.view r1
    split at e
    · rename_i ys ev
      rw [ev] at rw0
      cases e
      obtain ⟨a, vs, rfl, h, l⟩ := rw0
      exact ⟨a, vs, rfl, .inl (.of h), fun p hp => q _ _ (.upd hp) (rep_new_lst rs hp l)⟩
    · rename_i ys ev
      rw [ev] at rw0
      cases e
      obtain ⟨a, vs, rfl, h, l, n⟩ := rw0.tup
      exact ⟨a, vs, rfl, .inr (.inl h), fun p hp => q _ _ (.upd hp) (rep_new_lst rs hp l)⟩
    · cases e
  · cases e
end
/-! ### methods of built-in types -/
abbrev BM := Sto → D → List D → Option (D × Sto)
def rM (K : PySem.W.Frag) (mg : Str → Option Value) (f : BM) : V → List V → Hp → VK → Prop := fun x xs H Q =>
  ∃ μ S d ds r S', RelS K mg μ H S ∧ Rep K mg μ H d x ∧ RepAll K mg μ H ds xs ∧ f S d ds = some (r, S') ∧ ∀ μ' H' v, Step μ H μ' H' → RelS K mg μ' H' S' → Rep K mg μ' H' r v → Q v H'
def eM (ok : Sto → D → Bool) (f : BM) (ma : ME) (r : MA) : ME := fun env S => (ma env S).bind fun d S => if ok S d then (r env S).bind fun ds S => match f S d ds with
  | some p => .ok p.1 p.2
  | none => .stuck else .stuck
def isLstB (S : Sto) (d : D) : Bool := match view S d with
  | .lst _ => true
  | _ => false
def isDctB (S : Sto) (d : D) : Bool := match d with
  | .loc l => match S[l]? with
    | some (.dct _ _) => true
    | _ => false
  | _ => false
def isStrB (_ : Sto) (d : D) : Bool := match d with
  | .str _ => true
  | _ => false
section
variable {X : Cx} {W : WX} {o e : Expr} {es : List Expr} {apos cpos : Pos} {ma : ME} {r : MA} {f : BM} {ok : Sto → D → Bool} {T id : String} {name : Str}
theorem ty_lst {K : PySem.W.Frag} {mg : Str → Option Value} {μ : Mu} {H : Hp} {S : Sto} {d : D} {x : V} (rs : RelS K mg μ H S) (r : Rep K mg μ H d x) (h : isLstB S d = true) : tyV K "list" x H := by
  unfold isLstB at h
  have w := rs.view r
  split at h
  · rename_i xs ev
    rw [ev] at w
    obtain ⟨a, vs, rfl, h, _⟩ := w
    exact .inl ⟨rfl, vs, .of h⟩
  · cases h
theorem ty_dct {K : PySem.W.Frag} {mg : Str → Option Value} {μ : Mu} {H : Hp} {S : Sto} {d : D} {x : V} (rs : RelS K mg μ H S) (r : Rep K mg μ H d x) (h : isDctB S d = true) : tyV K "dict" x H := by
  unfold isDctB at h
  split at h
  · rename_i l
    unfold Rep at r
    obtain ⟨a, rfl, hμ⟩ := r
    split at h
    · rename_i t kvs es
      obtain ⟨a', h1, ro⟩ := rs.at_ _ _ es
      rw [hμ] at h1; cases h1
      cases t with
      | false => obtain ⟨vs, ks, ⟨h2, _⟩, _⟩ := ro; exact .inr (.inr (.inl ⟨rfl, .inl ⟨_, h2⟩⟩))
      | true => obtain ⟨vs, ks, ⟨h2, _⟩, _⟩ := ro; exact .inr (.inr (.inl ⟨rfl, .inr ⟨_, h2⟩⟩))
    · cases h
  · cases h
theorem ty_str {K : PySem.W.Frag} {mg : Str → Option Value} {μ : Mu} {H : Hp} {S : Sto} {d : D} {x : V} (rs : RelS K mg μ H S) (r : Rep K mg μ H d x) (h : isStrB S d = true) : tyV K "str" x H := by
  unfold isStrB at h
  split at h
  · unfold Rep at r; subst r; rfl
  · cases h
theorem sE_m (hok : ∀ {μ : Mu} {H : Hp} {S : Sto} {d : D} {x : V}, RelS X.K X.mg μ H S → Rep X.K X.mg μ H d x → ok S d = true → tyV X.K T x H) (pa : PlainAttrs T) (slot : Slot T name id) (hty : typeOf (.builtin id) = pure (.type "method_descriptor")) (hm : MtR X id (rM X.K X.mg f)) (ho : PE X o (tE X W ma)) (ha : PA X (e :: es) (tAs X W r))
    (hbase : attributeBase o name X.env (eval o X.env) = eval o X.env := by rfl)
    (hfew : ((backTo cpos (starEach (e :: es) X.env)).all (fun x => !x.1) && (backToKw cpos (keywordEach [] X.env)).all (fun x => x.1.isSome)
      && decide ((e :: es).length + ([] : List Keyword).length + (if ([] : List Keyword).isEmpty then 0 else 1) < 30)) = true := by rfl)
    (hline : (apos.endLine == cpos.line) = true := by rfl) (hs : starEach (e :: es) X.env = (false, eval e X.env) :: starEach es X.env := by rfl) (hplain : (backTo cpos (starEach es X.env)).any (·.1) = false := by rfl) :
    PE X (.Call (.Attribute o name apos) (e :: es) [] cpos) (tE X W (eM ok f ma r)) :=
  pe_to (pe_bm pa slot hty hm ho ha hbase hfew hline hs hplain) fun σ H Q ⟨env, S, μ, rl, o⟩ => ⟨env, S, μ, rl, (Out.bind o).mono fun x H1 ⟨μ1, S1, d, st, rs, rd, o1⟩ => by
    split at o1
    · rename_i hk
      refine ⟨hok rs rd hk, env, S1, μ1, ⟨rl.env.step st, rs⟩, (Out.bind o1).mono fun xs H2 ⟨μ2, S2, ds, st2, rs2, rds, o2⟩ => ?_⟩
      cases ef : f S2 d ds with
      | none => rw [ef] at o2; exact o2.elim
      | some p => rw [ef] at o2; exact ⟨μ2, S2, d, ds, p.1, p.2, rs2, Rep.step st2 _ _ rd, rds, ef, o2⟩
    · exact o1.elim⟩
theorem sE_m0 (hok : ∀ {μ : Mu} {H : Hp} {S : Sto} {d : D} {x : V}, RelS X.K X.mg μ H S → Rep X.K X.mg μ H d x → ok S d = true → tyV X.K T x H) (pa : PlainAttrs T) (slot : Slot T name id) (hty : typeOf (.builtin id) = pure (.type "method_descriptor")) (hm : MtR X id (rM X.K X.mg f)) (ho : PE X o (tE X W ma))
    (hbase : attributeBase o name X.env (eval o X.env) = eval o X.env := by rfl) (hline : (apos.endLine == cpos.line) = true := by rfl) : PE X (.Call (.Attribute o name apos) [] [] cpos) (tE X W (eM ok f ma aNil)) :=
  pe_to (pe_bm0 pa slot hty hm ho hbase hline) fun σ H Q ⟨env, S, μ, rl, o⟩ => ⟨env, S, μ, rl, (Out.bind o).mono fun x H1 ⟨μ1, S1, d, st, rs, rd, o1⟩ => by
    split at o1
    · rename_i hk
      refine ⟨hok rs rd hk, ?_⟩
      simp only [aNil, Res.bind] at o1
      cases ef : f S1 d [] with
      | none => rw [ef] at o1; exact o1.elim
      | some p => rw [ef] at o1; exact ⟨μ1, S1, d, [], p.1, p.2, rs, rd, .nil, ef, o1⟩
    · exact o1.elim⟩
theorem mtR_to {r r' : V → List V → Hp → VK → Prop} (h : MtR X id r) (i : ∀ x xs H Q, r' x xs H Q → r x xs H Q) : MtR X id r' := fun pins s σ H x xs v us Q I rx rxs w => h pins s σ H x xs v us Q I rx rxs (i _ _ _ _ w)
/-- xs.append(d) -/
def bAppend : BM := fun S d ds => match d, ds with
  | .loc l, [a] => match S[l]? with
    | some (.lst xs) => if xs.length < 1000000 then some (.none, S.set l (.lst (xs ++ [a]))) else none
    | _ => none
  | _, _ => none
theorem m_append : MtR X "list.append" (rM X.K X.mg bAppend) := mtR_to mt_append fun x xs H Q ⟨μ, S, d, ds, r, S', rs, rd, rds, e, q⟩ => by
  unfold bAppend at e
  split at e
  · rename_i l a
    unfold Rep at rd
    obtain ⟨ad, rfl, hμ⟩ := rd
    obtain ⟨v, rfl, rv⟩ := repAll1 rds
    split at e
    · rename_i ys es
      split at e
      · rename_i hl
        cases e
        obtain ⟨a', h1, vs, h2, h3⟩ := rs.at_ _ _ es
        rw [hμ] at h1; cases h1
        have st : Step μ H μ (upd H ad (.lst (vs ++ [v]))) := Step.write rs hμ (.of h2)
        refine ⟨ad, vs, v, rfl, rfl, h2, by rw [← h3.length, sizeLine_eq]; omega, q μ _ .non st (rs.write hμ (.of h2) ⟨_, upd_same, RepAll.step st _ _ (h3.append (.cons rv .nil))⟩) rep_none⟩
      · cases e
    · cases e
  · cases e
/-- xs.pop() -/
def bPop : BM := fun S d ds => match d, ds with
  | .loc l, [] => match S[l]? with
    | some (.lst xs) => match xs[xs.length - 1]? with
      | some a => some (a, S.set l (.lst xs.dropLast))
      | none => none
    | _ => none
  | _, _ => none
end
end DL

set_option Elab.async false
set_option linter.all false
set_option maxRecDepth 100000
/-! DL11: stores at subscripts, reversed lists, dicts of pairs, dict comprehensions. -/
namespace DL
open PySem PySem.Spec PyProof.Rows L2
/-! ### o[i] = v -/
def dPut (t : Bool) (kvs : List (D × D)) (k v : D) : List (D × D) :=
  if (kvs.any fun p => keq t p.1 k) = true then kvs.map (fun p => if keq t p.1 k = true then (p.1, v) else p) else kvs ++ [(k, v)]
theorem put_zip {κ : Type} [DecidableEq κ] {f : κ → D} {g : D → D → Bool} (hg : ∀ a b, g (f a) (f b) = decide (a = b)) {K : PySem.W.Frag} {mg : Str → Option Value} {μ : Mu} {H : Hp} (k : κ) {d : D} {v : V} (rd : Rep K mg μ H d v) {kvs : List (D × D)} {ks : List κ} {vs : List V} (e : kvs.map (·.1) = ks.map f) (r : RepAll K mg μ H (kvs.map (·.2)) vs) :
    ∃ (ks' : List κ) (vs' : List V), putK (ks.zip vs) k v = ks'.zip vs' ∧ (if (kvs.any fun p => g p.1 (f k)) = true then kvs.map (fun p => if g p.1 (f k) = true then (p.1, d) else p) else kvs ++ [(f k, d)]).map (·.1) = ks'.map f ∧
      RepAll K mg μ H ((if (kvs.any fun p => g p.1 (f k)) = true then kvs.map (fun p => if g p.1 (f k) = true then (p.1, d) else p) else kvs ++ [(f k, d)]).map (·.2)) vs' := by
  have any : ∀ {kvs : List (D × D)} {ks : List κ} {vs : List V}, kvs.map (·.1) = ks.map f → RepAll K mg μ H (kvs.map (·.2)) vs → (kvs.any fun p => g p.1 (f k)) = ((ks.zip vs).any fun p => decide (p.1 = k)) := by
    intro kvs
    induction kvs with
    | nil =>
      intro ks vs e r
      have : ks = [] := by cases ks with | nil => rfl | cons a b => cases e
      subst this; rfl
    | cons p kvs ih =>
      intro ks vs e r
      cases ks with
      | nil => cases e
      | cons k' ks =>
        have r : RepAll K mg μ H (p.2 :: kvs.map (·.2)) vs := r
        unfold RepAll at r
        obtain ⟨v, q, rfl, r1, r2⟩ := r
        injection e with e1 e2
        rw [List.zip_cons_cons, List.any_cons, List.any_cons, ih e2 r2]
        have e1 : p.1 = f k' := e1
        rw [e1, hg]
  have mp : ∀ {kvs : List (D × D)} {ks : List κ} {vs : List V}, kvs.map (·.1) = ks.map f → RepAll K mg μ H (kvs.map (·.2)) vs →
      ∃ vs' : List V, (ks.zip vs).map (fun p => if p.1 = k then (p.1, v) else p) = ks.zip vs' ∧ (kvs.map fun p => if g p.1 (f k) = true then (p.1, d) else p).map (·.1) = ks.map f ∧ RepAll K mg μ H ((kvs.map fun p => if g p.1 (f k) = true then (p.1, d) else p).map (·.2)) vs' := by
    intro kvs
    induction kvs with
    | nil =>
      intro ks vs e r
      have : ks = [] := by cases ks with | nil => rfl | cons a b => cases e
      subst this; exact ⟨[], rfl, rfl, .nil⟩
    | cons p kvs ih =>
      intro ks vs e r
      cases ks with
      | nil => cases e
      | cons k' ks =>
        have r : RepAll K mg μ H (p.2 :: kvs.map (·.2)) vs := r
        unfold RepAll at r
        obtain ⟨w, q, rfl, r1, r2⟩ := r
        injection e with e1 e2
        have e1 : p.1 = f k' := e1
        obtain ⟨vs', h1, h2, h3⟩ := ih e2 r2
        have hgk : g p.1 (f k) = decide (k' = k) := by rw [e1, hg]
        have hf1 : (if g p.1 (f k) = true then (p.1, d) else p).1 = f k' := by split <;> exact e1
        by_cases hk : k' = k
        · refine ⟨v :: vs', ?_, ?_, ?_⟩
          · rw [List.zip_cons_cons, List.map_cons, h1, List.zip_cons_cons]; simp [hk]
          · rw [List.map_cons, List.map_cons, h2, List.map_cons, hf1]
          · rw [List.map_cons, List.map_cons]
            simp only [hgk, hk, decide_true, if_true]
            exact .cons rd h3
        · refine ⟨w :: vs', ?_, ?_, ?_⟩
          · rw [List.zip_cons_cons, List.map_cons, h1, List.zip_cons_cons]; simp [hk]
          · rw [List.map_cons, List.map_cons, h2, List.map_cons, hf1]
          · rw [List.map_cons, List.map_cons]
            simp only [hgk, hk, decide_false, Bool.false_eq_true, if_false]
            exact .cons r1 h3
  have ha := any e r
  unfold putK
  rw [ha]
  by_cases hb : ((ks.zip vs).any fun p => decide (p.1 = k)) = true
  · rw [if_pos hb, if_pos hb]
    obtain ⟨vs', h1, h2, h3⟩ := mp e r
    exact ⟨ks, vs', h1, h2, h3⟩
  · rw [if_neg hb, if_neg hb]
    have hl : ks.length = vs.length := by
      have h1 := congrArg List.length e
      have h2 := r.length
      simp only [List.length_map] at h1 h2
      omega
    refine ⟨ks ++ [k], vs ++ [v], by rw [List.zip_append hl]; rfl, by simp [e], ?_⟩
    rw [List.map_append]
    exact r.append (.cons rd .nil)
theorem put_ok {K : PySem.W.Frag} {mg : Str → Option Value} {μ : Mu} {H : Hp} {t : Bool} {kvs : List (D × D)} {a : Addr} {k d : D} {y v : V} (h : RepO K mg μ H (.dct t kvs) a) (hk : keyOk t k = true) (rk : Rep K mg μ H k y) (rd : Rep K mg μ H d v) (hl : kvs.length < 1000000) :
    ∃ ho, DPut H a y v (upd H a ho) ∧ ∀ {μ' : Mu}, Step μ H μ' (upd H a ho) → RepO K mg μ' (upd H a ho) (.dct t (dPut t kvs k d)) a := by
  cases t with
  | false =>
    obtain ⟨vs, ks, ⟨e, q⟩, rs⟩ := h
    obtain ⟨kk, rfl⟩ := key_f hk
    rw [rep_key rk]
    obtain ⟨ks', vs', h1, h2, h3⟩ := put_zip keq_f kk rd q rs
    have hz : (ks.zip vs).length < sizeLine := by rw [zip_len q rs, sizeLine_eq]; omega
    refine ⟨_, .k e hz, fun st => ?_⟩
    rw [h1] at *
    exact ⟨vs', ks', ⟨upd_same, h2⟩, RepAll.step st _ _ h3⟩
  | true =>
    obtain ⟨vs, ks, ⟨e, q⟩, rs⟩ := h
    obtain ⟨kk, rfl⟩ := key_t hk
    obtain ⟨b, rfl, hb⟩ := rep_keyT rk
    obtain ⟨ks', vs', h1, h2, h3⟩ := put_zip keq_t kk rd q rs
    have hz : (ks.zip vs).length < sizeLine := by rw [zip_len q rs, sizeLine_eq]; omega
    refine ⟨_, .t e hb hz, fun st => ?_⟩
    rw [h1] at *
    exact ⟨vs', ks', ⟨upd_same, h2⟩, RepAll.step st _ _ h3⟩
def subPut (S : Sto) (o i v : D) : Option Sto := match o with
  | .loc l => match S[l]? with
    | some (.lst xs) => match i with
      | .int k => match ixN xs.length k with
        | some j => some (S.set l (.lst (xs.set j v)))
        | none => none
      | _ => none
    | some (.dct t kvs) => if keyOk t i = true ∧ kvs.length < 1000000 then some (S.set l (.dct t (dPut t kvs i v))) else none
    | _ => none
  | _ => none
def rPut (K : PySem.W.Frag) (mg : Str → Option Value) : TSet := fun o i v H Q => ∃ μ S od id vd S', RelS K mg μ H S ∧ Rep K mg μ H od o ∧ Rep K mg μ H id i ∧ Rep K mg μ H vd v ∧ subPut S od id vd = some S' ∧ ∀ μ' H', Step μ H μ' H' → RelS K mg μ' H' S' → Q H'
section
variable {X : Cx} {W : WX}
theorem set_sub (hu : X.A.units + 1 < cLine) : PSet X (rPut X.K X.mg) := by
  intro pins s σ H o i v ov iv u Q I ro ri rv ⟨μ, S, od, id, vd, S', rs, rod, rid, rvd, e, q⟩
  unfold subPut at e
  split at e
  · rename_i l
    unfold Rep at rod
    obtain ⟨a, rfl, hμ⟩ := rod
    split at e
    · rename_i xs es
      obtain ⟨a', h1, vs, h2, h3⟩ := rs.at_ _ _ es
      rw [hμ] at h1; cases h1
      split at e
      · rename_i k
        unfold Rep at rid
        subst rid
        split at e
        · rename_i j ej
          cases e
          have st : Step μ H μ (upd H a (.lst (vs.set j v))) := Step.write rs hμ (.of h2)
          exact set_list pins s σ H _ _ _ ov iv u Q I ro ri rv ⟨a, vs, k, j, rfl, rfl, h2, by rw [← h3.length]; exact ej, q μ _ st (rs.write hμ (.of h2) ⟨_, upd_same, RepAll.step st _ _ (h3.set rvd j)⟩)⟩
        · cases e
      · cases e
    · rename_i t kvs es
      split at e
      · rename_i hk
        cases e
        obtain ⟨a', h1, h2⟩ := rs.at_ _ _ es
        rw [hμ] at h1; cases h1
        obtain ⟨ho, hp, hr⟩ := put_ok h2 hk.1 rid rvd hk.2
        have nf : NF H a := by
          cases t <;> (obtain ⟨vs, ks, ⟨q, _⟩, _⟩ := h2; exact .of q)
        have st : Step μ H μ (upd H a ho) := Step.write rs hμ nf
        exact set_dict hu pins s σ H _ _ _ ov iv u Q I ro ri rv ⟨a, _, rfl, hp, q μ _ st (rs.write hμ nf (hr st))⟩
      · cases e
    · cases e
  · cases e
def gSubM (mo mi : ME) : MG := fun v env S => match mo env S with
  | .ok o S => match mi env S with
    | .ok i S => (subPut S o i v).map fun S => (env, S)
    | _ => none
  | _ => none
theorem sG_sub {o i : Expr} {mo mi : ME} {pos : Pos} (hu : X.A.units + 1 < cLine) (ho : PE X o (tE X (fun _ _ _ _ => False) mo)) (hi : PE X i (tE X (fun _ _ _ _ => False) mi))
    (ha : ∀ v, assign (.Subscript o i pos) X.env v = (do
      let ov ← holding [v] (eval o X.env)
      let iv ← holding [v, ov] (eval i X.env)
      standAt pos
      holding [v, ov, iv] (setItem ov iv v)
      release [v, ov, iv] []) := by intro v; rfl) : PG X (.Subscript o i pos) (tG X (gSubM mo mi)) :=
  pg_to (pg_sub ho hi (set_sub hu) ha) fun v σ H Q ⟨env, S, μ, d, rl, r, o⟩ => by
    unfold gSubM at o
    refine ⟨env, S, μ, rl, ?_⟩
    cases hmo : mo env S with
    | exc a b => simp only [hmo] at o; exact o.elim
    | stuck => simp only [hmo] at o; exact o.elim
    | ok od S1 =>
      simp only [hmo] at o
      intro μ1 H1 ov st1 rs1 ro
      refine ⟨env, S1, μ1, ⟨rl.env.step st1, rs1⟩, ?_⟩
      cases hmi : mi env S1 with
      | exc a b => simp only [hmi] at o; exact o.elim
      | stuck => simp only [hmi] at o; exact o.elim
      | ok id S2 =>
        simp only [hmi] at o
        intro μ2 H2 iv st2 rs2 ri
        cases hs : subPut S2 od id d with
        | none => simp only [hs] at o; exact o.elim
        | some S3 =>
          simp only [hs] at o
          exact ⟨μ2, S2, od, id, d, S3, rs2, Rep.step st2 _ _ ro, ri, Rep.step (st1.trans st2) _ _ r, hs, fun μ' H' st rs' => o μ' H' σ ((st1.trans st2).trans st) (rl.env.step ((st1.trans st2).trans st)) rs'⟩
/-! ### xs[::-1] -/
def eRev (m : ME) : ME := fun env S => (m env S).bind fun d S => match view S d with
  | .lst xs => .ok (.lst xs.reverse) S
  | _ => .stuck
theorem RepAll.reverse {K : PySem.W.Frag} {mg : Str → Option Value} {μ : Mu} {H : Hp} : ∀ {ds : List D} {vs : List V}, RepAll K mg μ H ds vs → RepAll K mg μ H ds.reverse vs.reverse
  | [], _, h => by unfold RepAll at h; subst h; exact .nil
  | d :: ds, _, h => by
    unfold RepAll at h
    obtain ⟨v, r, rfl, h1, h2⟩ := h
    rw [List.reverse_cons, List.reverse_cons]
    exact (RepAll.reverse h2).append (.cons h1 .nil)
theorem pe_rev {e st : Expr} {te : TE} {p3 pos : Pos} (he : PE X e te) (hst : ∀ σ H, ∃ t, PE X st t ∧ t σ H fun v H' => v = .int (-1) ∧ H' = H) : PE X (.Subscript e (.Slice none none (some st) p3) pos) (tRevL X.K te) := by
  refine ⟨fun pins s σ H Q I h => ?_⟩
  refine Subscript_ (thn (he.run pins s σ H _ I h) fun v s1 ⟨x, H1, I1, r1, q1⟩ => ?_)
  obtain ⟨a, xs, ex, hx, q⟩ := q1
  subst ex
  cases r1
  refine wpAny_Slice (thn (po_none.run pins s1 σ H1 (fun o H2 => o = none ∧ H2 = H1) I1 ⟨rfl, rfl⟩) fun vl s2 ⟨l, H2, I2, pl, el, e2⟩ => ?_)
  subst el e2
  refine thn (po_none.run pins s2 σ H2 (fun o H3 => o = none ∧ H3 = H2) I2 ⟨rfl, rfl⟩) fun vu s3 ⟨u, H3, I3, pu, eu, e3⟩ => ?_
  subst eu e3
  obtain ⟨t, ht, hq⟩ := hst σ H3
  refine thn (ht.run pins s3 σ H3 _ I3 hq) fun vs s4 ⟨o, H4, I4, ps, eo, e4⟩ => ?_
  subst eo e4
  obtain ⟨tk, ps⟩ := ps
  have ps' : IsPart vs (some (-1)) := by rw [ps]; exact .int _ _
  have I5 : Inv X pins σ H4 { s4 with heap := s4.heap.push { cls := .type "slice", data := .fields #[vl, vu, vs] } } := I4.kept (t' := s4.toks) fun b ob q => Heap.get?_push_of_some _ q
  obtain ⟨its, r, ht, hz⟩ := I5.list hx
  have hlen := r.length
  show wpAny (model X.prog X.w) X.A (subscriptTail e (.Slice none none (some st) p3) (.ref a) (.ref s4.heap.objs.size)) (EP X pins σ Q) X.xe { s4 with heap := s4.heap.push { cls := .type "slice", data := .fields #[vl, vu, vs] } }
  refine tail_any (ops := [.ref a, .ref s4.heap.objs.size]) ht.isList.typeIs (PySem.slot_list_getitem.lookup) ?_ (by with_unfolding_all rfl)
  refine wpAny_getItem_list_slice ht.isList (Heap.IsSliceOf.new _ vl vu vs) pl pu ps' (by decide) ?_ (by rw [List.size_toArray]; omega)
  rw [PySem.W.krv_pick]
  refine ⟨.ref _, _, I5.laid (t' := s4.toks) (o := .lst xs.reverse) (fun b ob q => Heap.get?_push_of_some _ q) (Nat.le_refl _) ?_, rfl, q _ (I5.hok.fresh (Nat.le_refl _))⟩
  exact ⟨by rw [List.length_reverse]; exact hz, _, 0, r.reverse, Heap.get?_push_size _ rfl⟩
theorem t_rev {m : ME} {σ : L2.St} {H : Hp} {Q : VK} (h : tE X W (eRev m) σ H Q) : tRevL X.K (tE X W m) σ H Q := by
  obtain ⟨env, S, μ, rl, o⟩ := h
  refine ⟨env, S, μ, rl, (Out.bind o).mono fun x H1 ⟨μ1, S1, d, st, rs, rd, o1⟩ => ?_⟩
  have rw0 := rs.view rd
  split at o1
  · rename_i xs ev
    rw [ev] at rw0
    obtain ⟨a, vs, rfl, h1, h2⟩ := rw0
    exact ⟨a, vs, rfl, .of h1, fun p hp => o1 μ1 _ (.ref p) (.of_sm (.upd hp)) (rs.sm (.upd hp)) (rep_new_lst rs hp h2.reverse)⟩
  · exact o1.elim
/-- xs[::0 - 1] -/
theorem sE_rev {e : Expr} {m : ME} {k1 k2 : Nat} {p1 p2 p3 p4 pos : Pos} (he : PE X e (tE X W m)) : PE X (.Subscript e (.Slice none none (some (.BinOp (.Constant (.int 0) k1 p1) .Sub (.Constant (.int 1) k2 p2) p4)) p3) pos) (tE X W (eRev m)) :=
  pe_to (pe_rev he fun σ H => ⟨_, pe_op op_sub pe_int pe_int, ⟨0, 1, rfl, rfl, rfl, rfl⟩⟩) fun σ H Q h => t_rev h
/-- xs[::-1] -/
theorem sE_revN {e : Expr} {m : ME} {k : Nat} {p1 p2 p3 pos : Pos} (he : PE X e (tE X W m)) : PE X (.Subscript e (.Slice none none (some (.UnaryOp .USub (.Constant (.int 1) k p1) p2)) p3) pos) (tE X W (eRev m)) :=
  pe_to (pe_revL he) fun σ H Q h => t_rev h
end
end DL

set_option Elab.async false
set_option linter.all false
set_option maxRecDepth 100000
/-! DL12: pop, sorted, dict(pairs), dict comprehensions, comprehensions whose list is changed later. -/
namespace DL
open PySem PySem.Spec PyProof.Rows L2
/-! ### what was hidden is told -/
section
variable {K : PySem.W.Frag} {mg : Str → Option Value} {μ : Mu} {H : Hp} {S : Sto}
theorem Stp.reveal {p : Addr} {h' : List Addr} (hp : p ∈ μ.h) (hs : ∀ a ∈ h', a ∈ μ.h) : Stp μ H ⟨μ.l ++ [p], h'⟩ H :=
  ⟨⟨⟨[p], rfl⟩, fun a ha => .inl (by
    rcases ha with z | z
    · rcases List.mem_append.mp z with e | e
      · exact .inl e
      · have : a = p := by simpa using e
        subst this; exact .inr hp
    · exact .inr (hs a z)), fun _ _ e _ _ => e⟩, fun _ _ _ e => e⟩
theorem RelS.reveal {p : Addr} {o : O} {h' : List Addr} (rs : RelS K mg μ H S) (hp : p ∈ μ.h) (hs : ∀ a ∈ h', a ∈ μ.h) (hn : p ∉ h') (r : RepO K mg μ H o p) : RelS K mg ⟨μ.l ++ [p], h'⟩ H (S ++ [o]) := by
  have np : p ∉ μ.l := fun z => rs.dis p z hp
  have st : Stp μ H ⟨μ.l ++ [p], h'⟩ H := .reveal hp hs
  refine ⟨by simp [rs.len], List.nodup_append.mpr ⟨rs.nd, by simp, fun a ha b hb => ?_⟩, fun a ha z => ?_, fun a ha => rs.hid a (hs a ha), fun l u e => ?_, rs.tab⟩
  · have : b = p := by simpa using hb
    subst this
    exact fun z => np (z ▸ ha)
  · rcases List.mem_append.mp ha with e | e
    · exact rs.dis a e (hs a z)
    · have : a = p := by simpa using e
      subst this; exact hn z
  · by_cases hl : l < S.length
    · rw [List.getElem?_append_left hl] at e
      obtain ⟨a, h1, h2⟩ := rs.at_ l u e
      exact ⟨a, st.get h1, h2.step st fun w q => q⟩
    · rw [List.getElem?_append_right (by omega)] at e
      have hl2 : l - S.length = 0 := by
        have := (List.getElem?_eq_some_iff.mp e).1
        simp at this; omega
      rw [hl2] at e
      simp at e
      subst e
      have : l = S.length := by omega
      subst this
      exact ⟨p, by rw [rs.len]; simp, r.step st fun w q => q⟩
end
/-! ### sorted -/
def dle (a b : D) : Bool := PySem.W.dataLe false pdF a b
def sortOk (xs : List D) : Bool := xs.all (dok 60) && (xs.all fun a => xs.all fun b => PySem.W.alike (pdF a) (pdF b)) &&
  ((xs.all fun a => match a with
    | .tup (_ :: _) => true
    | .tpn (_ :: _) => true
    | _ => false) || xs.all fun a => match a with
    | .tup _ => false
    | .tpn _ => false
    | .none => false
    | _ => true)
def sortOf (S : Sto) (d : D) : Option (List D) := match view S d with
  | .lst xs => some xs
  | .ro xs => some xs
  | _ => none
def fSorted (S : Sto) (ds : List D) : Option D := match ds with
  | [d] => match sortOf S d with
    | some xs => if sortOk xs = true ∧ xs.length ≤ 1000000 then some (.lst (xs.mergeSort dle)) else none
    | none => none
  | _ => none
section
variable {K : PySem.W.Frag} {mg : Str → Option Value} {μ : Mu} {H : Hp} {S : Sto}
theorem sortOf_ok (rs : RelS K mg μ H S) {d : D} {v : V} {xs : List D} (r : Rep K mg μ H d v) (e : sortOf S d = some xs) : ∃ a vs, v = .ref a ∧ SqL K H a vs ∧ RepAll K mg μ H xs vs := by
  unfold sortOf at e
  have rw0 := rs.view r
  split at e
  · rename_i ev
    cases e
    rw [ev] at rw0
    obtain ⟨a, vs, rfl, h1, h2⟩ := rw0
    exact ⟨a, vs, rfl, .of h1, h2⟩
  · rename_i ev
    cases e
    rw [ev] at rw0
    have rw0 : Rep K mg μ H (.ro xs) v := rw0
    unfold Rep at rw0
    obtain ⟨a, vs, rfl, h1, h2⟩ := rw0
    exact ⟨a, vs, rfl, h1.sq, h2⟩
  · cases e
theorem sort_alike {xs : List D} (h : sortOk xs = true) : PySem.W.AllAlike (xs.map pdF) ∧ PySem.W.Sortable (xs.map pdF) ∧ ∀ d ∈ xs, dok 60 d = true := by
  unfold sortOk at h
  simp only [Bool.and_eq_true, Bool.or_eq_true, List.all_eq_true] at h
  obtain ⟨⟨h1, h2⟩, h3⟩ := h
  refine ⟨fun d hd d' hd' => ?_, ?_, h1⟩
  · obtain ⟨a, ha, rfl⟩ := List.mem_map.mp hd
    obtain ⟨b, hb, rfl⟩ := List.mem_map.mp hd'
    exact h2 a ha b hb
  · rcases h3 with h3 | h3
    · refine .inl fun d hd => ?_
      obtain ⟨a, ha, rfl⟩ := List.mem_map.mp hd
      have := h3 a ha
      split at this
      · exact ⟨_, _, by unfold pdF; unfold pdFs; rfl⟩
      · exact ⟨_, _, by unfold pdF; unfold pdFs; rfl⟩
      · cases this
    · refine .inr fun d hd => ?_
      obtain ⟨a, ha, rfl⟩ := List.mem_map.mp hd
      have h4 := h3 a ha
      have h5 := h1 a ha
      cases a with
      | tup xs => simp at h4
      | tpn xs => simp at h4
      | none => simp at h4
      | bool b => unfold pdF; exact ⟨nofun, nofun⟩
      | int b => unfold pdF; exact ⟨nofun, nofun⟩
      | str b => unfold pdF; exact ⟨nofun, nofun⟩
      | lst b => unfold pdF; exact ⟨nofun, nofun⟩
      | ty n => cases h5
      | ro n => cases h5
      | loc n => cases h5
      | glo n => cases h5
      | adr n => cases h5
      | clo n => cases h5
theorem map_zip_fst : ∀ {ds : List D} {vs : List V}, ds.length = vs.length → (ds.zip vs).map (·.1) = ds
  | [], [], _ => rfl
  | d :: ds, v :: vs, h => by rw [List.zip_cons_cons, List.map_cons, map_zip_fst (by simpa using h)]
theorem repAll_mem : ∀ {ds : List D} {vs : List V}, RepAll K mg μ H ds vs → ∀ p ∈ ds.zip vs, Rep K mg μ H p.1 p.2
  | [], vs, r, p, hp => by simp at hp
  | d :: ds, vs, r, p, hp => by
    unfold RepAll at r
    obtain ⟨v, q, rfl, h1, h2⟩ := r
    rw [List.zip_cons_cons] at hp
    rcases List.mem_cons.mp hp with e | e
    · subst e; exact h1
    · exact repAll_mem h2 p e
theorem repAll_of : ∀ {ps : List (D × V)}, (∀ p ∈ ps, Rep K mg μ H p.1 p.2) → RepAll K mg μ H (ps.map (·.1)) (ps.map (·.2))
  | [], _ => .nil
  | p :: ps, h => .cons (h p List.mem_cons_self) (repAll_of fun q hq => h q (List.mem_cons_of_mem _ hq))
/-- what sorting makes of values alike -/
theorem vals_zip : ∀ {ds : List D} {vs : List V} {us : List Value}, ds.length = vs.length → Vals vs us → PySem.W.EachIs (fun u (p : D × V) => L2.RelV p.2 u) us (ds.zip vs)
  | [], [], _, _, r => by cases r; exact .nil
  | d :: ds, v :: vs, _, h, r => by
    cases r with
    | cons h1 h2 =>
      rw [List.zip_cons_cons]
      exact .cons h1 (vals_zip (by simpa using h) h2)
theorem each_vals : ∀ {us : List Value} {ps : List (D × V)}, PySem.W.EachIs (fun u (p : D × V) => L2.RelV p.2 u) us ps → Vals (ps.map (·.2)) us
  | _, _, .nil => .nil
  | _, _, .cons h t => .cons h (each_vals t)
end
section
variable {X : Cx}
theorem each_reads {pins : List (Addr × Obj)} {s : Shared} {σ : L2.St} {H : Hp} {μ : Mu} (I : L2.Inv X pins σ H s) : ∀ {ds : List D} {vs : List V} {us : List Value}, (∀ d ∈ ds, dok 60 d = true) → RepAll X.K X.mg μ H ds vs → Vals vs us → PySem.W.EachIs (fun u (p : D × V) => ∃ as, Reads s.heap u (pdF p.1) as) us (ds.zip vs)
  | [], vs, us, _, ra, r => by
    unfold RepAll at ra; subst ra; cases r; exact .nil
  | d :: ds, vs, us, h, ra, r => by
    unfold RepAll at ra
    obtain ⟨v, q, rfl, h1, h2⟩ := ra
    cases r with
    | cons r1 r2 =>
      rw [List.zip_cons_cons]
      exact .cons (Dp.reads I _ _ _ (dp_of 60 d v (h d List.mem_cons_self) h1.w) r1) (each_reads I (fun x hx => h x (List.mem_cons_of_mem _ hx)) h2 r2)
theorem mergeSort_fst {ds : List D} {vs : List V} (h : ds.length = vs.length) : ((ds.zip vs).mergeSort (PySem.W.dataLe false fun p => pdF p.1)).map (·.1) = ds.mergeSort dle := by
  rw [List.map_mergeSort (s := dle)]
  · rw [map_zip_fst h]
  · intro a ha b hb
    rfl
theorem c_sorted (hu : X.A.units + 65 < cLine) : CallR X (.builtin "sorted") (rB X.K X.mg fSorted) := by
  intro pins s σ H xs us Q I rx ⟨μ, S, ds, d, rs, ra, e, q⟩
  unfold fSorted at e
  split at e
  · rename_i d0
    obtain ⟨v, rfl, r1⟩ := repAll1 ra
    split at e
    · rename_i zs ez
      split at e
      · rename_i hk
        cases e
        obtain ⟨a, vs, rfl, hs, rz⟩ := sortOf_ok rs r1 ez
        obtain ⟨h1, h2, h3⟩ := sort_alike hk.1
        obtain ⟨its, rv, hl, hz⟩ := I.list hs
        rw [Vals.ref1 rx]
        have hlen := rz.length
        have en : (zs.zip vs).map (fun p : D × V => pdF p.1) = zs.map pdF := by
          conv => rhs; rw [← map_zip_fst hlen, List.map_map]
          rfl
        refine PySem.W.sorted_data (R := fun u (p : D × V) => L2.RelV p.2 u) (bs := zs.zip vs) (enc := fun p => pdF p.1) hl.isList (vals_zip hlen rv) (each_reads I h3 rz rv) (by rw [en]; exact h1) (by rw [en]; exact h2)
          (by rw [List.length_zip, hlen, Nat.min_self]; exact hz) (fun b hb => ?_) fun out ho he => ?_
        · have := (dok_lay 60 b.1 (h3 _ (List.of_mem_zip hb).1)).2
          omega
        · obtain ⟨ep, he'⟩ := PyProof.Rows.sortedAll_at s.heap its out.toArray
          have rv' := each_vals he
          have hp : ∀ p ∈ (zs.zip vs).mergeSort (PySem.W.dataLe false fun p => pdF p.1), Rep X.K X.mg μ H p.1 p.2 := fun p hp => repAll_mem rz p (List.mem_mergeSort.mp hp)
          have rr := repAll_of hp
          rw [mergeSort_fst hlen] at rr
          have hn : H (s.heap.objs.size + 1) = none := I.hok.fresh (Nat.le_succ _)
          refine ⟨.ref _, upd H (s.heap.objs.size + 1) (.lst (((zs.zip vs).mergeSort (PySem.W.dataLe false fun p => pdF p.1)).map (·.2))), I.laid (t' := s.toks) (fun _ _ => PyProof.Rows.sortedAll_old) (Nat.le_succ _) ⟨?_, out, ep, rv', he'⟩, rfl, q _ _ (.upd hn) (rep_new_lst rs hn rr)⟩
          rw [List.length_map, List.length_mergeSort, List.length_zip, hlen, Nat.min_self]
          exact hz
      · cases e
    · cases e
  · cases e
/-! ### pop -/
theorem RepAll.dropLast {K : PySem.W.Frag} {mg : Str → Option Value} {μ : Mu} {H : Hp} {ds : List D} {vs : List V} (r : RepAll K mg μ H ds vs) : RepAll K mg μ H ds.dropLast vs.dropLast := by
  rw [List.dropLast_eq_take, List.dropLast_eq_take, r.length]
  exact r.take _
theorem m_pop : MtR X "list.pop" (rM X.K X.mg bPop) := mtR_to mt_pop fun x xs H Q ⟨μ, S, d, ds, r, S', rs, rd, rds, e, q⟩ => by
  unfold bPop at e
  split at e
  · rename_i l
    unfold Rep at rd
    obtain ⟨ad, rfl, hμ⟩ := rd
    unfold RepAll at rds
    subst rds
    split at e
    · rename_i ys es
      split at e
      · rename_i a ea
        cases e
        obtain ⟨a', h1, vs, h2, h3⟩ := rs.at_ _ _ es
        rw [hμ] at h1; cases h1
        obtain ⟨v, hv, rv⟩ := h3.get ea
        have st : Step μ H μ (upd H ad (.lst vs.dropLast)) := Step.write rs hμ (.of h2)
        refine ⟨ad, vs, v, rfl, rfl, h2, by rw [← h3.length]; exact hv, q μ _ v st (rs.write hμ (.of h2) ⟨_, upd_same, RepAll.step st _ _ h3.dropLast⟩) (Rep.step st _ _ rv)⟩
      · cases e
    · cases e
  · cases e
end
/-! ### dict(pairs) -/
def pairOf : D → Option (D × D)
  | .tup [k, v] => if keyOk false k = true then some (k, v) else none
  | _ => none
def pairsOf : List D → Option (List (D × D))
  | [] => some []
  | d :: ds => match pairOf d, pairsOf ds with
    | some p, some ps => some (p :: ps)
    | _, _ => none
def putAll (kvs : List (D × D)) : List (D × D) → List (D × D)
  | [] => kvs
  | p :: ps => putAll (dPut false kvs p.1 p.2) ps
def eDictP (r : MA) : ME := fun env S => (r env S).bind fun ds S => match ds with
  | [.tpn xs] => match pairsOf xs with
    | some ps => if xs.length ≤ 1000000 then .ok (.loc S.length) (S ++ [.dct false (putAll [] ps)]) else .stuck
    | none => .stuck
  | _ => .stuck
section
variable {X : Cx}
theorem prs_of {pins : List (Addr × Obj)} {σ : L2.St} {H : Hp} {s : Shared} (I : L2.Inv X pins σ H s) : ∀ {ps : List Addr} {kvs : List (Key × V)}, Paired (fun p kv => SqT X.K H p [kV kv.1, kv.2]) ps kvs →
    ∃ (prs : List (Key × Value)) (uvs : List (Value × Value)), KV kvs prs ∧ prs.length = ps.length ∧ uvs.length = ps.length ∧ ∀ (j : Nat) (u v : Value), uvs[j]? = some (u, v) → ∃ (b : Addr) (k : Key), ps[j]? = some b ∧ IsTup s.heap b #[u, v] ∧ keyIs k u = true ∧ prs[j]? = some (k, v)
  | _, _, .nil => ⟨[], [], .nil, rfl, rfl, fun j u v e => by simp at e⟩
  | _, _, .cons (a := p) (b := kv) h t => by
    obtain ⟨prs, uvs, r, hl, hl2, hp⟩ := prs_of I t
    obtain ⟨its, rv, ht, _⟩ := I.tuple h
    obtain ⟨u, y, ei, ru, ry⟩ := vals2 rv
    subst ei
    refine ⟨(kv.1, y) :: prs, (u, y) :: uvs, .cons ⟨rfl, ry⟩ r, by rw [List.length_cons, List.length_cons, hl], by rw [List.length_cons, List.length_cons, hl2], fun j u' v' e => ?_⟩
    cases j with
    | zero =>
      have e' : (u, y) = (u', v') := Option.some.inj e
      cases e'
      exact ⟨p, kv.1, rfl, ht, kV_is (P := X.prog) (w := X.w) ru, rfl⟩
    | succ j =>
      obtain ⟨b, k, e1, e2, e3, e4⟩ := hp j u' v' (by simpa using e)
      exact ⟨b, k, by simpa using e1, e2, e3, by simpa using e4⟩
theorem call_dictPT (hcalm : X.calm = true) : CallR X (.type "dict") (fun xs H Q => ∃ (a : Addr) (o : Obj) (ps : List Addr) (kvs : List (Key × V)), xs = [.ref a] ∧ H a = some (.frz o (.tup (ps.map V.ref))) ∧ o.dict = none ∧ Paired (fun p kv => SqT X.K H p [kV kv.1, kv.2]) ps kvs ∧
    ∀ p, H p = none → Q (.ref p) (upd H p (.dK (mergeK [] kvs)))) := by
  intro pins s σ H xs us Q I r q
  obtain ⟨a, o, ps, kvs, ex, hq, hd, hp, q⟩ := q
  subst ex
  obtain ⟨u, eu, rx⟩ := vals1 r
  subst eu
  cases rx
  obtain ⟨ho, hz, its, rv, o', ho', hc, n, hdat⟩ := I.hok a _ hq
  rw [ho] at ho'; cases ho'
  have ei := refs_at rv
  subst ei
  rw [List.length_map] at hz
  obtain ⟨prs, uvs, rel, hl, hl2, hpr⟩ := prs_of I hp
  have at_ : ∀ (j : Nat) (k v : Value), uvs[j]? = some (k, v) → (List.toArray (ps.map Value.ref))[j]? = some (.ref ((ps[j]?).getD 0)) ∧ PySem.PairAt s.heap ((ps[j]?).getD 0) k v := fun j k v e => by
    obtain ⟨b, kk, e1, e2, e3, e4⟩ := hpr j k v e
    refine ⟨?_, ?_⟩
    · simp [e1]
    · rw [e1]; exact .inl e2
  refine PySem.call_dict_pairs (knd := mixKind X.prog X.w) (kvs := prs) (PySem.PairArg.tuple a (List.toArray (ps.map Value.ref)) (fun j => (ps[j]?).getD 0) uvs) (I.ok.hd hcalm) ⟨⟨o, n, ho, hc, hd, hdat⟩, ⟨by simp [hl2], at_⟩⟩ ⟨by rw [hl, hl2], fun i key v e => ?_⟩ (by rw [hl2]; exact hz) fun h' tk hd' k => ?_
  · obtain ⟨b, kk, e1, e2, e3, e4⟩ := hpr i key v e
    exact ⟨kk, e4, e3⟩
  · have hm : (s.heap.objs.size == sysModules) = false := beq_eq_false_iff_ne.mpr (Nat.ne_of_gt I.big)
    have hlen : (mergeK [] kvs).length ≤ sizeLine := by
      refine Nat.le_trans (length_mergeK kvs []) ?_
      rw [List.length_nil, Nat.zero_add, rel.length, hl]
      exact hz
    exact ⟨.ref s.heap.objs.size, upd H s.heap.objs.size (.dK (mergeK [] kvs)), I.laid (t' := tk) (fun b o e => k b o (by simp) e) (Nat.le_refl _) (show ObjOk X.prog X.w _ _ _ (.dK (mergeK [] kvs)) from ⟨hlen, hm, merged [] prs, KV.merge rel .nil, hd'⟩), rfl, q _ (I.hok.fresh (Nat.le_refl _))⟩
end
section
variable {K : PySem.W.Frag} {mg : Str → Option Value} {μ : Mu} {H : Hp}
theorem pairs_rep : ∀ {xs : List D} {vs : List V} {ps : List (D × D)}, RepAll K mg μ H xs vs → pairsOf xs = some ps → ∃ (as : List Addr) (kvs : List (Key × V)), vs = as.map V.ref ∧ Paired (fun p kv => SqT K H p [kV kv.1, kv.2]) as kvs ∧ ps.map (·.1) = kvs.map (fun kv => keyD kv.1) ∧ RepAll K mg μ H (ps.map (·.2)) (kvs.map (·.2))
  | [], vs, ps, r, e => by
    unfold RepAll at r; subst r; cases e
    exact ⟨[], [], rfl, .nil, rfl, .nil⟩
  | d :: ds, vs, ps, r, e => by
    unfold RepAll at r
    obtain ⟨v, q, rfl, r1, r2⟩ := r
    unfold pairsOf at e
    split at e
    · rename_i p ps' ep eps
      cases e
      obtain ⟨as, kvs, rfl, h1, h2, h3⟩ := pairs_rep r2 eps
      unfold pairOf at ep
      split at ep
      · rename_i k w
        split at ep
        · rename_i hk
          cases ep
          obtain ⟨kk, rfl⟩ := key_f hk
          unfold Rep at r1
          obtain ⟨a, vs, rfl, g1, gn, g2⟩ := r1
          obtain ⟨u1, u2, rfl, k1, k2⟩ := repAll2 g2
          rw [rep_key k1] at g1
          exact ⟨a :: as, (kk, u2) :: kvs, rfl, .cons (.of g1) h1, by rw [List.map_cons, List.map_cons, h2], .cons k2 h3⟩
        · cases ep
      · cases ep
    · cases e
theorem put_all : ∀ {ps : List (D × D)} {kvs : List (Key × V)} {ds : List (D × D)} {acc : List (Key × V)}, ps.map (·.1) = kvs.map (fun kv => keyD kv.1) → RepAll K mg μ H (ps.map (·.2)) (kvs.map (·.2)) → (∃ ks vs, acc = List.zip ks vs ∧ ds.map (·.1) = ks.map keyD ∧ RepAll K mg μ H (ds.map (·.2)) vs) →
    ∃ ks vs, mergeK acc kvs = List.zip ks vs ∧ (putAll ds ps).map (·.1) = ks.map keyD ∧ RepAll K mg μ H ((putAll ds ps).map (·.2)) vs
  | [], kvs, ds, acc, e, r, h => by
    have : kvs = [] := by cases kvs with | nil => rfl | cons a b => cases e
    subst this; exact h
  | p :: ps, kvs, ds, acc, e, r, ⟨ks, vs, h1, h2, h3⟩ => by
    cases kvs with
    | nil => cases e
    | cons kv kvs =>
      have r : RepAll K mg μ H (p.2 :: ps.map (·.2)) (kv.2 :: kvs.map (·.2)) := r
      unfold RepAll at r
      obtain ⟨v, q, ee, r1, r2⟩ := r
      cases ee
      injection e with e1 e2
      have e1 : p.1 = keyD kv.1 := e1
      subst h1
      obtain ⟨ks', vs', g1, g2, g3⟩ := put_zip keq_f kv.1 r1 h2 h3
      refine put_all (ds := dPut false ds p.1 p.2) (acc := putK (ks.zip vs) kv.1 kv.2) e2 r2 ⟨ks', vs', g1, ?_, ?_⟩
      · unfold dPut; rw [e1]; exact g2
      · unfold dPut; rw [e1]; exact g3
end
section
variable {X : Cx} {W : WX} {e : Expr} {p pos : Pos} {r : MA}
theorem sE_dictP (hcalm : X.calm = true) (hg : Gl X "dict") (hm : X.mg "dict" = none) (hv : bootBuiltins "dict" = some (.type "dict")) (ha : PA X [e] (tAs X W r))
    (he : starEach [e] X.env = (false, eval e X.env) :: starEach [] X.env := by rfl) (hpl : (backTo pos (starEach [] X.env)).any (·.1) = false := by rfl) : PE X (.Call (.Name "dict" p) [e] [] pos) (tE X W (eDictP r)) :=
  pe_to (pe_callTy (call_dictPT hcalm) hg hm hv ha (by decide) (by decide) he hpl) fun σ H Q ⟨env, S, μ, rl, o⟩ => ⟨env, S, μ, rl, (Out.bind o).mono fun vs H1 ⟨μ1, S1, ds, st, rs, rd, o1⟩ => by
    split at o1
    · rename_i xs
      split at o1
      · rename_i ps ep
        split at o1
        · obtain ⟨v, rfl, r1⟩ := repAll1 rd
          unfold Rep at r1
          obtain ⟨a, ws, o, rfl, ⟨h1, hd⟩, n, h2⟩ := r1
          obtain ⟨as, kvs, rfl, g1, g2, g3⟩ := pairs_rep h2 ep
          refine ⟨a, o, as, kvs, rfl, h1, hd, g1, fun p hp => ?_⟩
          obtain ⟨ks, vs, m1, m2, m3⟩ := put_all (ds := []) (acc := []) g2 g3 ⟨[], [], rfl, rfl, .nil⟩
          obtain ⟨x, y, z⟩ := loc_new (o := .dct false (putAll [] ps)) (ho := .dK (mergeK [] kvs)) rs hp ⟨vs, ks, ⟨by rw [upd_same, m1], m2⟩, RepAll.step (.new_loc hp) _ _ m3⟩
          exact o1 _ _ _ x y z
        · exact o1.elim
      · exact o1.elim
    · exact o1.elim⟩
end
end DL

set_option Elab.async false
set_option linter.all false
set_option maxRecDepth 100000
/-! DL13: dict comprehensions (keys ints or texts); comprehensions whose list is changed later. -/
namespace DL
open PySem PySem.Spec PyProof.Rows L2
def turnDC (g : MG) (tc : MT) (mk mv : ME) (w : En) (d : D) (acc : List (D × D)) (S : Sto) : Res (List (D × D)) := match g d w S with
  | none => .stuck
  | some p => (tc p.1 p.2).bindS fun c S2 => if c = true then (mk p.1 S2).bindS fun k S3 => (mv p.1 S3).bindS fun v S4 => if keyOk false k = true ∧ acc.length < 1000000 then .ok (dPut false acc k v) S4 else .stuck else .ok acc S2
def compDI (g : MG) (tc : MT) (mk mv : ME) (w : En) : List D → List (D × D) → Sto → Res (List (D × D))
  | [], acc, S => .ok acc S
  | d :: ds, acc, S => (turnDC g tc mk mv w d acc S).bindS fun acc S => compDI g tc mk mv w ds acc S
/-- a dict laid -/
def kD : List (D × D) → Sto → Res D := fun kvs S => .ok (.loc S.length) (S ++ [.dct false kvs])
def eDComp (mi : MI) (g : MG) (tc : MT) (mk mv : ME) (vs : List Nat) : ME := fun env S => (mi env S).bind fun it S => match it with
  | .items ds => (compDI g tc mk mv (wipeE env vs) ds [] S).bind kD
  | .live _ => .stuck
  | .liveE _ => .stuck
section
variable {X : Cx} {W : WX} {e tg iter elt kx vx : Expr} {pos : Pos} {g : MG} {m mk mv : ME} {mi : MI} {tc : MT} {vs : List Nat}
/-- a dict that is being made -/
def DOk (K : PySem.W.Frag) (mg : Str → Option Value) (μ : Mu) (H : Hp) (p : Addr) (acc : List (D × D)) : Prop := ∃ (ks : List Key) (vs : List V), H p = some (.dK (ks.zip vs)) ∧ acc.map (·.1) = ks.map keyD ∧ RepAll K mg μ H (acc.map (·.2)) vs
theorem dc_turn {W : WX} {vs : List Nat} {σ : L2.St} {w : En} {p : Addr} {Q : V → Hp → Prop} {μ1 μ2 : Mu} {H1 H2 : Hp} {S2 : Sto} {d : D} {x : V} {acc : List (D × D)} {N : Hp → Prop} {f : List (D × D) → Sto → Res D}
    (re : RelE X.K X.mg μ2 H2 w (L2.wipe σ vs)) (rs : RelS X.K X.mg μ2 H2 S2) (hp : DOk X.K X.mg μ2 H2 p acc) (np : p ∈ μ2.h) (rx : Rep X.K X.mg μ2 H2 d x)
    (o : Out X.K X.mg W σ μ1 H1 (fun μ H a b => Rep X.K X.mg μ H a b) Q ((turnDC g tc mk mv w d acc S2).bindS f))
    (hN : ∀ μ3 H3 S3 acc', StP p μ2 H2 μ3 H3 → RelS X.K X.mg μ3 H3 S3 → DOk X.K X.mg μ3 H3 p acc' → Out X.K X.mg W σ μ1 H1 (fun μ H a b => Rep X.K X.mg μ H a b) Q (f acc' S3) → N H3) :
    tGc X vs g x (L2.wipe σ vs) H2 fun σ2 H3 => L2.wipe σ2 vs = L2.wipe σ vs ∧ tT X W0 tc σ2 H3 fun b H4 => if b = true then tE X W0 mk σ2 H4 fun y H5 => tE X W0 mv σ2 H5 fun z H6 => ∃ kvs k, y = kV k ∧ H6 p = some (.dK kvs) ∧ kvs.length < sizeLine ∧ N (upd H6 p (.dK (putK kvs k z))) else N H4 := by
  refine ⟨w, S2, μ2, d, ⟨re, rs⟩, rx, ?_⟩
  unfold turnDC at o
  obtain ⟨ks, us, hp, hk, ra⟩ := hp
  cases hg : g d w S2 with
  | none => simp only [hg, Res.bindS] at o; exact o.elim
  | some q =>
    obtain ⟨e, Se⟩ := q
    simp only [hg] at o
    intro μ3 H3 σ3 st3 re3 rs3 hw
    refine ⟨hw.trans (wipe_wipe vs vs σ fun i hi => hi), e, Se, μ3, ⟨re3, rs3⟩, ?_⟩
    have hp3 := st3.hk _ _ np hp
    have np3 : p ∈ μ3.h := by rw [st3.hid]; exact np
    have ra3 := RepAll.step st3 _ _ ra
    cases htc : tc e Se with
    | exc a b => simp only [htc, Res.bindS] at o; exact o.elim
    | stuck => simp only [htc, Res.bindS] at o; exact o.elim
    | ok c S4 =>
      simp only [htc, Res.bindS] at o
      intro μ4 H4 b st4 rs4 hb
      subst hb
      have hp4 := st4.hk _ _ np3 hp3
      have np4 : p ∈ μ4.h := by rw [st4.hid]; exact np3
      have ra4 := RepAll.step st4 _ _ ra3
      cases b with
      | false =>
        simp only [Bool.false_eq_true, if_false] at o ⊢
        exact hN μ4 H4 S4 acc (.of (st3.trans st4)) rs4 ⟨ks, us, hp4, hk, ra4⟩ o
      | true =>
        simp only [if_true] at o ⊢
        refine ⟨e, S4, μ4, ⟨re3.step st4, rs4⟩, ?_⟩
        cases hm : mk e S4 with
        | exc a b => simp only [hm, Res.bindS] at o; exact o.elim
        | stuck => simp only [hm, Res.bindS] at o; exact o.elim
        | ok kd S5 =>
          simp only [hm, Res.bindS] at o
          intro μ5 H5 y st5 rs5 ry
          have hp5 := st5.hk _ _ np4 hp4
          have np5 : p ∈ μ5.h := by rw [st5.hid]; exact np4
          have ra5 := RepAll.step st5 _ _ ra4
          refine ⟨e, S5, μ5, ⟨(re3.step st4).step st5, rs5⟩, ?_⟩
          cases hv : mv e S5 with
          | exc a b => simp only [hv, Res.bindS] at o; exact o.elim
          | stuck => simp only [hv, Res.bindS] at o; exact o.elim
          | ok v S6 =>
            simp only [hv, Res.bindS] at o
            intro μ6 H6 z st6 rs6 rz
            have hp6 := st6.hk _ _ np5 hp5
            have np6 : p ∈ μ6.h := by rw [st6.hid]; exact np5
            have ra6 := RepAll.step st6 _ _ ra5
            by_cases hl : keyOk false kd = true ∧ acc.length < 1000000
            · simp only [hl, and_self, if_true] at o
              obtain ⟨kk, rfl⟩ := key_f hl.1
              obtain ⟨ks', vs', h1, h2, h3⟩ := put_zip keq_f kk rz hk ra6
              have sw : StP p μ6 H6 μ6 (upd H6 p (.dK (putK (ks.zip us) kk z))) := .write np6 (.of hp6)
              refine ⟨_, kk, rep_key ry, hp6, ?_, ?_⟩
              · rw [zip_len hk ra, sizeLine_eq]; omega
              · exact hN μ6 _ S6 _ ((StP.of (((st3.trans st4).trans st5).trans st6)).trans sw) (rs6.write_hid np6) ⟨ks', vs', by rw [upd_same, h1], h2, RepAll.stp sw.toStp _ _ h3⟩ o
            · simp only [hl, if_false] at o; exact o.elim
theorem dc_sem {own : List (Str × Nat)} {σ : L2.St} {H : Hp} {Q : VK} {W : WX} (h : tE X W (eDComp mi g tc mk mv (own.map (·.2))) σ H Q) :
    tDc (tI X W mi) (tGc X (own.map (·.2)) g) (tT X W0 tc) (tE X W0 mk) (tE X W0 mv) (own.map (·.2)) σ H Q := by
  obtain ⟨env, S, μ, rl, o⟩ := h
  generalize own.map (·.2) = vs at *
  refine ⟨env, S, μ, rl, (Out.bind o).mono fun J H1 ⟨μ1, S1, it, st, rs, rd, o1⟩ p hp => ?_⟩
  have rw1 : RelE X.K X.mg μ1 H1 (wipeE env vs) (L2.wipe σ vs) := (rl.env.step st).wipe vs
  generalize wipeE env vs = w at *
  have sh : Stp μ1 H1 (μ1.hide p) (upd H1 p (.dK [])) := .new_hid hp
  have fin : ∀ (μ2 : Mu) (H2 : Hp) (S2 : Sto) (acc : List (D × D)), StP p (μ1.hide p) (upd H1 p (.dK [])) μ2 H2 → RelS X.K X.mg μ2 H2 S2 → DOk X.K X.mg μ2 H2 p acc → Out X.K X.mg W σ μ1 H1 (fun μ H a b => Rep X.K X.mg μ H a b) Q (Res.bind (.ok acc S2) kD) → Q (.ref p) H2 := by
    intro μ2 H2 S2 acc sp rs2 ⟨ks, us, hp2, hk2, ra⟩ o
    have hpm : p ∈ μ2.h := by rw [sp.hid]; exact List.mem_cons_self
    have sub : ∀ a ∈ μ1.h, a ∈ μ2.h := fun a ha => by rw [sp.hid]; exact List.mem_cons_of_mem _ ha
    have su : Stp μ2 H2 ⟨μ2.l ++ [p], μ1.h⟩ H2 := .reveal hpm sub
    have rr := rs2.reveal (o := .dct false acc) hpm sub (rs.notinH hp) ⟨us, ks, ⟨hp2, hk2⟩, ra⟩
    refine o ⟨μ2.l ++ [p], μ1.h⟩ H2 (.ref p) ⟨(sh.trans sp.toStp).trans su, rfl, fun a u ha e nt => sp.hk a u (ne_of_none e hp) (List.mem_cons_of_mem _ ha) (by rw [upd_ne (ne_of_none e hp)]; exact e) nt⟩ rr ?_
    unfold Rep
    exact ⟨p, rfl, by rw [rs2.len]; simp⟩
  have npm : ∀ {μ2 : Mu} {H2 : Hp}, StP p (μ1.hide p) (upd H1 p (.dK [])) μ2 H2 → p ∈ μ2.h := fun sp => by rw [sp.hid]; exact List.mem_cons_self
  have st0 : StP p (μ1.hide p) (upd H1 p (.dK [])) (μ1.hide p) (upd H1 p (.dK [])) := .of .refl
  cases it with
  | items ds =>
    have rd : WalkD X.K X.mg μ1 H1 ds J := rd
    refine ⟨fun i n H => n + i = ds.length ∧ ∃ μ S acc, StP p (μ1.hide p) (upd H1 p (.dK [])) μ H ∧ RelS X.K X.mg μ H S ∧ DOk X.K X.mg μ H p acc ∧ Out X.K X.mg W σ μ1 H1 (fun μ H a b => Rep X.K X.mg μ H a b) Q ((compDI g tc mk mv w (ds.drop i) acc S).bind kD),
      ⟨ds.length, rfl, _, S1, [], st0, rs.hide hp, ⟨[], [], upd_same, rfl, .nil⟩, o1⟩, ?_⟩
    rintro i n H ⟨hn, μ, S, acc, sp, rs, hpp, o⟩
    have sb : Stp μ1 H1 μ H := sh.trans sp.toStp
    by_cases hi : i < ds.length
    · have ed : ds.drop i = ds[i] :: ds.drop (i + 1) := List.drop_eq_getElem_cons hi
      rw [ed] at o
      unfold compDI at o
      have o : Out X.K X.mg W σ μ1 H1 (fun μ H a b => Rep X.K X.mg μ H a b) Q ((turnDC g tc mk mv w ds[i] acc S).bindS fun acc S => (compDI g tc mk mv w (ds.drop (i + 1)) acc S).bind kD) := by
        cases hq : turnDC g tc mk mv w ds[i] acc S with
        | ok a b => rw [hq] at o; exact o
        | exc a b => rw [hq] at o; exact o
        | stuck => rw [hq] at o; exact o
      refine .inr ⟨rd.goes i μ H hi sb, fun H => ∃ μ S acc, StP p (μ1.hide p) (upd H1 p (.dK [])) μ H ∧ RelS X.K X.mg μ H S ∧ DOk X.K X.mg μ H p acc ∧ Out X.K X.mg W σ μ1 H1 (fun μ H a b => Rep X.K X.mg μ H a b) Q ((compDI g tc mk mv w (ds.drop (i + 1)) acc S).bind kD), fun H' w => ⟨n - 1, by omega, by omega, w⟩, fun x H' y => ?_⟩
      obtain ⟨sm, rx⟩ := rd.yields i _ μ H S x H' (List.getElem?_eq_getElem hi) sb rs y
      have sx : Step μ H μ H' := .of_sm sm
      have spx := sp.trans (StP.of sx)
      obtain ⟨ks, us, g1, g2, g3⟩ := hpp
      refine dc_turn ((rw1.stp sh).stp spx.toStp) (rs.sm sm) ⟨ks, us, sm _ _ g1, g2, RepAll.step sx _ _ g3⟩ (npm spx) rx o fun μ3 H3 S3 acc' s3 rs3 hp3 o3 => ⟨μ3, S3, acc', spx.trans s3, rs3, hp3, o3⟩
    · have e : i = ds.length := by omega
      subst e
      rw [List.drop_length] at o
      exact .inl ⟨rd.stops μ H sb, fin μ H S acc sp rs hpp o⟩
  | live l => exact o1.elim
  | liveE l => exact o1.elim
theorem sE_dcomp {scope : Scope} {own : List (Str × Nat)} {ifs : List Expr} (hc : X.calm = true) (hN : X.N.Nodup) (hi : PI X tg iter (tI X W mi)) (ok : BlkOk X.N X.env.scope scope own)
    (hg : ∀ (s : Shared) (H : Hp) (C : Addr) (cl : List (Str × Addr)) (fp : List Addr), PG (X.blk s H scope (compEnvC scope cl C X.env) fp) tg (tGc (X.blk s H scope (compEnvC scope cl C X.env) fp) (own.map (·.2)) g))
    (ht : ∀ (s : Shared) (H : Hp) (C : Addr) (cl : List (Str × Addr)) (fp : List Addr), PTs' (X.blk s H scope (compEnvC scope cl C X.env) fp) ifs tc)
    (hk : ∀ (s : Shared) (H : Hp) (C : Addr) (cl : List (Str × Addr)) (fp : List Addr), PE (X.blk s H scope (compEnvC scope cl C X.env) fp) kx (tE (X.blk s H scope (compEnvC scope cl C X.env) fp) W0 mk))
    (he : ∀ (s : Shared) (H : Hp) (C : Addr) (cl : List (Str × Addr)) (fp : List Addr), PE (X.blk s H scope (compEnvC scope cl C X.env) fp) vx (tE (X.blk s H scope (compEnvC scope cl C X.env) fp) W0 mv)) (hs : ∀ x, foldedSetIterable iter X.env x = pure x := by intro _; rfl) :
    PE X (.DictComp kx vx [⟨tg, iter, ifs, 0⟩] scope pos) (tE X W (eDComp mi g tc mk mv (own.map (·.2)))) :=
  pe_to (pe_dc (g := tGc X (own.map Prod.snd) g) (tt := tT X W0 tc) (tk := tE X W0 mk) (tv := tE X W0 mv) hc hN hi ok hg ht hk he hs) fun σ H Q h => dc_sem h
end
end DL

set_option Elab.async false
set_option linter.all false
set_option maxRecDepth 100000
/-! DL14: raise; a lambda without parameters handed to a def that tells its error. -/
namespace DL
open PySem PySem.Spec PyProof.Rows L2
/-! ### raise C('m') -/
def sRaise (C : Str) : MS := fun env S => .exc ⟨C, []⟩ env S
/-- an own exception class without fields -/
structure ExcF (K : PySem.W.Frag) (C : Addr) : Prop where
  ex : PySem.W.excIn K C He.veBase "ValueError.__new__" = true
  kp : PySem.W.keepIn K (.ref C) = true
  s1 : PySem.W.subIn K (.ref C) (.type "BaseException") = some true
  s2 : PySem.W.typeIn K (.ref C) = some (.type "type")
section
variable {X : Cx} {W : WX} {pos : Pos}
theorem sS_raise {x m : Str} {j : Nat} {p p2 p3 : Pos} {C : Addr} (hc : X.calm = true) (tk : Takes X W) (F : ExcF X.K C) (gC : X.mg x = some (.ref C)) (hg : Gl X x) (hdb : (x == ("__debug__" : Str)) = false := by decide) :
    PS X (.Raise (some (.Call (.Name x p) [.Constant (.str m) j p2] [] p3)) none pos) (tS X W (sRaise x)) :=
  ps_to (ps_raise hc tk (pmk_own PySem.F.excBase_ValueError F.ex gC F.kp (raises_own F.s1 F.s2) hg hdb)) fun D σ H ⟨env, S, μ, rl, o⟩ =>
    o μ H σ (.ref C) none .refl rl.env rl.sto ⟨C, gC, rfl, .inl ⟨rfl, rfl⟩⟩
end
/-! ### list.count, list.index, str.split by values -/
def flV : D → Option V
  | .none => some .non
  | .bool b => some (.bl b)
  | .int i => some (.int i)
  | .str x => some (.str x)
  | _ => none
def flVs : List D → Option (List V)
  | [] => some []
  | d :: ds => match flV d, flVs ds with
    | some v, some vs => some (v :: vs)
    | _, _ => none
section
variable {K : PySem.W.Frag} {mg : Str → Option Value} {μ : Mu} {H : Hp}
theorem flV_ok {d : D} {v u : V} (r : Rep K mg μ H d v) (e : flV d = some u) : v = u := by
  cases d with
  | none => cases e; unfold Rep at r; exact r
  | bool b => cases e; unfold Rep at r; exact r
  | int b => cases e; unfold Rep at r; exact r
  | str b => cases e; unfold Rep at r; exact r
  | _ => cases e
theorem flVs_ok : ∀ {ds : List D} {vs us : List V}, RepAll K mg μ H ds vs → flVs ds = some us → vs = us
  | [], vs, us, r, e => by unfold RepAll at r; cases e; exact r
  | d :: ds, vs, us, r, e => by
    unfold RepAll at r
    obtain ⟨v, q, rfl, r1, r2⟩ := r
    unfold flVs at e
    split at e
    · rename_i a b ea eb
      cases e
      rw [flV_ok r1 ea, flVs_ok r2 eb]
    · cases e
end
def rCount (K : PySem.W.Frag) : V → List V → Hp → VK → Prop := fun x xs H Q => ∃ (a : Addr) (ys : List V) (y : V), x = V.ref a ∧ xs = [y] ∧ SqL K H a ys ∧ flatV y = true ∧ ys.all flatV = true ∧ Q (.int (ys.countP fun z => eqV z y : Nat)) H
section
variable {X : Cx}
theorem count_eqU {x : V} : ∀ {xs : List V} {us : List Value}, Vals xs us → xs.all flatV = true → us.countP (eqU x) = xs.countP fun y => eqV y x
  | _, _, .nil, _ => rfl
  | y :: xs, u :: us, .cons r t, f => by
    rw [List.all_cons, Bool.and_eq_true] at f
    rw [List.countP_cons, List.countP_cons, count_eqU t f.2, eqU_of r f.1]
theorem mt_countV : MtR X "list.count" (rCount X.K) := by
  intro pins s σ H x xs v us Q I rx rxs h
  obtain ⟨a, ys, y, rfl, rfl, hs, fy, fys, q⟩ := h
  cases rx
  cases rxs with
  | cons ry rt =>
    rename_i uy ut
    cases rt
    obtain ⟨its, rv, ⟨⟨cls, dd, data, sl⟩, n, ho, hc, hdn, hd⟩, hlen⟩ := I.list hs
    simp only at hc hd
    subst hc hd
    refine call_meets PySem.F.slot_list_count ⟨_, ho, rfl⟩ PySem.F.entry_list_count (PySem.F.args_list_count_2 _ _)
      (SeqAt.list_countAt a its.toArray n dd sl uy (eqU y)) ⟨ho, fun u' hu' => mem_eqAt ry fy rv fys u' (by simpa using hu'), ?_⟩
    refine ⟨.int (ys.countP (fun z => eqV z y) : Nat), H, I.tok _, ⟨s.toks, ?_⟩, q⟩
    show Value.int ((its.toArray.toList.countP (eqU y) : Nat) : Int) s.toks = _
    rw [show its.toArray.toList = its from rfl, count_eqU rv fys]
def bCount : BM := fun S d ds => match view0 S d, ds with
  | .lst xs, [a] => match flVs xs, flV a with
    | some vs, some v => if vs.all flatV && flatV v then some (.int (vs.countP fun z => eqV z v : Nat), S) else none
    | _, _ => none
  | _, _ => none
theorem m_count : MtR X "list.count" (rM X.K X.mg bCount) := mtR_to mt_countV fun x xs H Q ⟨μ, S, d, ds, r, S', rs, rd, rds, e, q⟩ => by
  unfold bCount at e
  split at e
  · rename_i zs a ev
    have rw0 := rs.view0 rd
    rw [ev] at rw0
    obtain ⟨ad, vs, rfl, h1, h2⟩ := rw0
    obtain ⟨v, rfl, rv⟩ := repAll1 rds
    split at e
    · rename_i us u e1 e2
      split at e
      · rename_i hf
        cases e
        rw [Bool.and_eq_true] at hf
        obtain rfl := flVs_ok h2 e1
        obtain rfl := flV_ok rv e2
        exact ⟨ad, _, _, rfl, rfl, .of h1, hf.2, hf.1, q μ H _ .refl rs (rep_int _)⟩
      · cases e
    · cases e
  · cases e
def bIndex : BM := fun S d ds => match view0 S d, ds with
  | .lst xs, [a] => match flVs xs, flV a with
    | some vs, some v => if vs.all flatV && flatV v then (vs.findIdx? fun z => eqV z v).map fun j => (.int (j : Nat), S) else none
    | _, _ => none
  | _, _ => none
theorem m_index : MtR X "list.index" (rM X.K X.mg bIndex) := mtR_to mt_index fun x xs H Q ⟨μ, S, d, ds, r, S', rs, rd, rds, e, q⟩ => by
  unfold bIndex at e
  split at e
  · rename_i zs a ev
    have rw0 := rs.view0 rd
    rw [ev] at rw0
    obtain ⟨ad, vs, rfl, h1, h2⟩ := rw0
    obtain ⟨v, rfl, rv⟩ := repAll1 rds
    split at e
    · rename_i us u e1 e2
      split at e
      · rename_i hf
        obtain ⟨j, hj, e3⟩ := Option.map_eq_some_iff.mp e
        cases e3
        rw [Bool.and_eq_true] at hf
        obtain rfl := flVs_ok h2 e1
        obtain rfl := flV_ok rv e2
        obtain ⟨hjl, g1, g2⟩ := List.findIdx?_eq_some_iff_getElem.mp hj
        exact ⟨ad, _, _, j, _, rfl, rfl, .of h1, hf.2, hf.1, List.getElem?_eq_getElem hjl, g1, fun m z' hm hz => by
          have hml : m < vs.length := (List.getElem?_eq_some_iff.mp hz).1
          have := g2 m hm
          rw [List.getElem?_eq_getElem hml] at hz
          cases hz
          simpa using this, q μ H _ .refl rs (rep_int _)⟩
      · cases e
    · cases e
  · cases e
def bSplit : BM := fun S d ds => match d, ds with
  | .str a, [.str b] => if (b.length == 0) = false ∧ a.length ≤ 100000 then some (.lst ((Txt.split a b).map .str), S) else none
  | _, _ => none
theorem repAll_strs {K : PySem.W.Frag} {mg : Str → Option Value} {μ : Mu} {H : Hp} : ∀ ys : List Str, RepAll K mg μ H (ys.map .str) (ys.map V.str)
  | [] => .nil
  | y :: ys => .cons (rep_str y) (repAll_strs ys)
theorem m_split : MtR X "str.split" (rM X.K X.mg bSplit) := mtR_to mt_split fun x xs H Q ⟨μ, S, d, ds, r, S', rs, rd, rds, e, q⟩ => by
  unfold bSplit at e
  split at e
  · rename_i a b
    split at e
    · rename_i hz
      cases e
      unfold Rep at rd
      subst rd
      obtain ⟨v, rfl, rv⟩ := repAll1 rds
      unfold Rep at rv
      subst rv
      exact ⟨a, b, rfl, rfl, hz.1, by rw [sizeLine_eq]; omega, fun p hp => q μ _ _ (.of_sm (.upd hp)) (rs.sm (.upd hp)) (rep_new_lst rs hp (repAll_strs _))⟩
    · cases e
  · cases e
end
/-! ### isinstance(e, C) -/
/-- kt: what the class table says; a: where the exception stands -/
def fIsE (a : Addr) (kt : D → Option Bool) : BF := fun _ ds => match ds with
  | [.adr b, c] => if b = a then (kt c).map .bool else none
  | _ => none
theorem c_isE {X : Cx} {a C : Addr} {oe : Obj} {pn : List (Addr × Obj)} {kt : D → Option Bool} (hC : ExcC X.K C) (hz : Zc (.ref C) none oe) (hf : ∃ vs, oe.data = .fields vs)
    (hk : ∀ c b, kt c = some b → ∃ cv, PySem.W.kitOne X.K (.ref C) cv = some b ∧ ∀ (μ : Mu) (H : Hp) (v : V), Rep X.K X.mg μ H c v → ∀ u, L2.RelV v u → u = cv) : CallR (X.suite a ((a, oe) :: pn)) (.builtin "isinstance") (rB X.K X.mg (fIsE a kt)) :=
  callR_to (call_isE hC hz hf) fun xs H Q ⟨μ, S, ds, d, rs, ra, e, q⟩ => by
    unfold fIsE at e
    split at e
    · rename_i b c
      split at e
      · rename_i hb
        subst hb
        obtain ⟨k, hk1, rfl⟩ := Option.map_eq_some_iff.mp e
        obtain ⟨v, w, rfl, r1, r2⟩ := repAll2 ra
        unfold Rep at r1
        subst r1
        obtain ⟨cv, h1, h2⟩ := hk c k hk1
        exact ⟨w, cv, k, rfl, h2 μ H w r2, h1, q H _ .rfl (rep_bool _)⟩
      · cases e
    · cases e
end DL

set_option Elab.async false
set_option linter.all false
set_option maxRecDepth 100000
/-! DL15: a lambda without parameters handed to a def that tells its error. -/
namespace DL
open PySem PySem.Spec PyProof.Rows L2 LamX
/-- what the def makes of what the lambda does -/
def kindM (hd : Str → Option D) : Res D → Res D
  | .ok d S => .ok d S
  | .exc e S => match e.fs, hd e.cls with
    | [], some d => .ok d S
    | _, _ => .stuck
  | .stuck => .stuck
def eKind (hd : Str → Option D) (m : ME) : ME := fun env S => kindM hd (m env S)
def Ek (K : PySem.W.Frag) (mg : Str → Option Value) (hd : Str → Option D) (Q : VK) : XK := fun cls d H' => ∃ μ S C D r, mg C = some (.ref D) ∧ cls = .ref D ∧ d = none ∧ hd C = some r ∧ RelS K mg μ H' S ∧ ∀ μ' H'' v, Step μ H' μ' H'' → RelS K mg μ' H'' S → Rep K mg μ' H'' r v → Q v H''
def TTk (K : PySem.W.Frag) (mg : Str → Option Value) (hd : Str → Option D) : (XK → Hp → VK → Prop) → Hp → VK → Prop := fun tl H Q => tl (Ek K mg hd Q) H Q
theorem step_extn {K : PySem.W.Frag} {mg : Str → Option Value} {μ : Mu} {H H1 : Hp} {S : Sto} (rs : RelS K mg μ H S) (e : ExtN H H1) (t : Tabs (tbs K) H1) : Step μ H μ H1 ∧ RelS K mg μ H1 S := by
  have st : Step μ H μ H1 := ⟨⟨⟨⟨[], by simp⟩, fun _ h => .inl h, fun a o h _ nt => e a o h nt⟩, fun a _ _ h => e a _ h fun _ z => nomatch z⟩, rfl, fun a u _ h nt => e a u h nt⟩
  refine ⟨st, rs.len, rs.nd, rs.dis, fun a ha => ?_, fun l o el => ?_, t⟩
  · obtain ⟨u, h1, h2⟩ := rs.hid a ha
    exact ⟨u, e a u h1 h2.ntb, h2⟩
  · obtain ⟨a, h1, h2⟩ := rs.at_ l o el
    refine ⟨a, h1, h2.step st.toStp fun u hu => e a u hu fun ps z => ?_⟩
    subst z
    exact h2.nt hu
/-- the reading of a whole call -/
theorem t_kind {X : Cx} {W : WX} {hd : Str → Option D} {m : ME} {σ : L2.St} {H : Hp} {Q : VK} (h : tE X W (eKind hd m) σ H Q) :
    tLam (tbs X.K) (TTk X.K X.mg hd) (fun E => tE X (fun c d _ H => E c d H) m) σ H Q := by
  obtain ⟨env, S, μ, rl, o⟩ := h
  refine ⟨rl.sto.tab, fun H1 e t => ?_⟩
  obtain ⟨st, rs⟩ := step_extn rl.sto e t
  refine ⟨env, S, μ, ⟨rl.env.step st, rs⟩, ?_⟩
  have o := Out.of_step st o
  unfold eKind kindM at o
  cases hm : m env S with
  | ok d S' => rw [hm] at o; exact o
  | stuck => rw [hm] at o; exact o.elim
  | exc x S' =>
    rw [hm] at o
    simp only at o
    split at o
    · rename_i d e1 e2
      intro μ' H' cls dd st' rs' rx
      obtain ⟨C, h1, h2, h3⟩ := rx
      obtain ⟨_, rfl⟩ : x.fs = [] ∧ dd = none := by
        rcases h3 with h3 | ⟨h4, _⟩
        · exact h3
        · exact absurd e1 h4
      exact ⟨μ', S', x.cls, C, d, h1, h2, rfl, e2, rs', fun μ2 H2 v s2 r2 rv => o μ2 H2 v (st'.trans s2) r2 rv⟩
    · exact o.elim
/-- what the suite is asked -/
def tsK (K : PySem.W.Frag) (mg : Str → Option Value) (hd : Str → Option D) (i : Nat) (a : Addr) (cls : Value) (d : Option Addr) : TS := fun D σ H => (∃ σ0 : L2.St, σ = σ0.set i (some (.ref a))) ∧ Ek K mg hd D.rt cls d H
theorem kind_gives {X : Cx} {Ng : List Str} {x a e : Str} {sg : Scope} {g CS : Addr} {cdg : Value} {b₀ : Stmt} {suite : List Stmt} {q : Str} {hd : Str → Option D} {i : Nat} {ec : Str} {sm : Str → Addr → MS} {p1 p2 p3 p4 p7 p8 : Pos}
    (hN : Ng.Nodup) (hi : Ng[i]? = some e) (hln : sg.names.lookup e = some .local) (hge : sg.names.lookup ec = some .globalImplicit) (hme : X.mg ec = some (.ref CS)) (hde : (ec == ("__debug__" : Str)) = false) (h0 : ∀ f : Addr, (L2.start Ng [V.ref f])[0]? = some (some (V.ref f)))
    (hx : ∀ C r, hd C = some r → ∀ Da, X.mg C = some (.ref Da) → PySem.W.exmOne X.K (.ref Da) (.ref CS) = some true)
    (hs : ∀ (s : Shared) (H : Hp) (ea Da : Addr) (oe : Obj) (pn : List (Addr × Obj)) (C : Str) (r : D), X.mg C = some (.ref Da) → hd C = some r → Zc (.ref Da) none oe → (∃ vs, oe.data = .fields vs) →
      PSs ((cxOf C8.CX0 X.prog X.w X.K X.mg X.base Ng x sg g cdg X.A X.stack s H C8.E0).nox.suite ea ((ea, oe) :: pn)) (b₀ :: suite) (tS ((cxOf C8.CX0 X.prog X.w X.K X.mg X.base Ng x sg g cdg X.A X.stack s H C8.E0).nox.suite ea ((ea, oe) :: pn)) W0 (sm C ea)))
    (hsem : ∀ C (ea : Addr) (S : Sto) r, hd C = some r → sm C ea ((List.replicate Ng.length none).set i (some (.adr ea))) S = .ret r S) :
    GivesTo X Ng x sg g cdg [.Try [.Return (some (.Call (.Name a p1) [] [] p2)) p3] [.ExceptHandler (some (.Name ec p4)) (some e) (b₀ :: suite) p7] [] [] p8] a q (TTk X.K X.mg hd) := by
  intro f c' s H Q tl act hc h
  have hgl : Gl (cxOf C8.CX0 X.prog X.w X.K X.mg X.base Ng x sg g cdg X.A X.stack s H C8.E0).nox ec := hge
  refine ⟨_, pss_one (ps_try_as (X := (cxOf C8.CX0 X.prog X.w X.K X.mg X.base Ng x sg g cdg X.A X.stack s H C8.E0).nox) (c := .ref CS) (i := i) (ts := tsK X.K X.mg hd i)
      (tb := fun W D σ H => ∃ Ech : XK, (∀ cls d σ' H', Ech cls d H' → W cls d σ' H') ∧ σ[0]? = some (some (.ref f)) ∧ H c' = some (CodeO c' q) ∧ tl Ech H D.rt)
      rfl rfl hN hi hln ⟨hgl, hde, .inl hme⟩ LamX.takes0 (fun W pn xe tk _ => ?_) (fun ea oe cls d pn hz hf => ?_)), ?_⟩
  · refine ⟨fun pins s' σ H' D I h' => ?_⟩
    obtain ⟨Ech, hW, h1, h2, h3⟩ := h'
    have hp := act W pn xe Ech p1 p2 tk hW
    have hq := pss_one (ps_ret (pos := p3) hp)
    exact hq.run pins s' σ H' D I ⟨h1, h2, h3⟩
  · refine ⟨fun pins s' σ H' D I h' => ?_⟩
    obtain ⟨⟨σ0, rfl⟩, μ, S, C, Da, r, m1, rfl, rfl, m4, rs, hq⟩ := h'
    have hq0 := hs s H ea Da oe pn C r m1 m4 hz hf
    have hil : i < Ng.length := (List.getElem?_eq_some_iff.mp hi).1
    have hsl : σ0.length = Ng.length := by
      have := I.len
      rw [List.length_set] at this
      exact this
    refine hq0.run pins s' _ H' D I ⟨(List.replicate Ng.length none).set i (some (.adr ea)), S, μ, ⟨⟨by simp [hsl], fun j d ej => ?_⟩, rs⟩, ?_⟩
    · by_cases hj : j = i
      · subst hj
        rw [List.getElem?_set_self (by simpa using hil)] at ej
        cases ej
        exact ⟨.ref ea, by rw [List.getElem?_set_self (by rw [hsl]; exact hil)], by unfold Rep; rfl⟩
      · rw [List.getElem?_set_ne (Ne.symm hj)] at ej
        rw [List.getElem?_replicate] at ej
        split at ej <;> cases ej
    · rw [hsem C ea S r m4]
      exact fun μ' H'' v st rs' rv => hq μ' H'' v st rs' rv
  · refine ⟨Ek X.K X.mg hd Q, fun cls d σ' H' he => ?_, h0 f, hc, h⟩
    obtain ⟨μ, S, C, Da, r, m1, rfl, rfl, m4, rs, hq⟩ := he
    exact ⟨true, hx C r m4 Da m1, fun _ ea hea => ⟨⟨σ', rfl⟩, μ, S, C, Da, r, m1, rfl, rfl, m4, rs, hq⟩, fun z => by cases z⟩
end DL

set_option Elab.async false
set_option linter.all false
set_option maxRecDepth 100000
/-! DL16: defs by the head's facts; lambdas handed to a def. -/
namespace DL
open PySem PySem.Spec PyProof.Rows L2 LamX
/-- here lambdas may be made -/
structure LamHere (X : Cx) (p : Str × Option Str) : Prop where
  tb : TabB X.base X.mg (He.cT X.K p).1 (He.cT X.K p).2
  code : X.env.code = .ref (He.cT X.K p).1
  mem : ((He.cT X.K p).2, X.env.qual ++ "<lambda>") ∈ tbs X.K
  uniq : ∀ r ∈ tbs X.K, r.1 = (He.cT X.K p).2 → r.2 = X.env.qual ++ "<lambda>"
/-- THE RULE for a def, by the head's facts -/
theorem fn_okD {P : Program} {w : World} {K : PySem.W.Frag} {mg : Str → Option Value} {base : Heap} {x qual : Str} {st : Stmt} {f : Addr} {fd : FuncData} {N ps : List Str} {k n : Nat} {m : MS} (F : FunD K x qual (defArgs st) (defBody st) (defScope st) [] [] f fd) (S : FnScope N ps (defScope st)) (b : Binds K fd ps []) (hn : N.length - ps.length = n)
    (hbody : ∀ X : Cx, X.prog = P → X.w = w → X.K = K → X.mg = mg → X.base = base → X.N = N → X.env.scope = defScope st → X.calm = true → (∀ x, X.fn x = true) → PassesOwn (model X.prog X.w) X.A X.env X.xe → Room k X.A → X.env.code = fd.code → X.env.qual = qual ++ ".<locals>." → ∀ W, Takes X W → PSs X (defBody st) (tS X W m)) : FnM P w K mg base (k + 1) f fd ps (bodyM n m) := by
  obtain ⟨oc, od, dV, kV, doc, pm, an, cdv, ct, osl, rfl, lk, hcd, _⟩ := F.ex
  refine ⟨fn_of lk hcd S (fun vs H Q E h => spD_len h) (fun A outer s H vs Q E hr h => ?_), F.kp, b⟩
  refine ⟨_, hbody _ rfl rfl rfl rfl rfl rfl rfl rfl (fun _ => rfl) (passes_of rfl) hr rfl rfl (fun cls d _ H => E cls d H) (takes_of rfl rfl rfl rfl), ?_⟩
  obtain ⟨ds, So, μ, rs, ra, o⟩ := h
  unfold chk at o
  split at o
  · rename_i hl
    have e0 : n = N.length - ds.length := by rw [hl]; exact hn.symm
    refine ⟨ds.map some ++ List.replicate n none, So, μ, ⟨by rw [e0]; exact relE_start ra, rs⟩, ?_⟩
    unfold bodyM at o
    cases hm : m (ds.map some ++ List.replicate n none) So with
    | next e S1 => rw [hm] at o; exact fun μ' H' σ' st re rs' => o μ' H' .non st rs' rep_none
    | ret d S1 => rw [hm] at o; exact fun μ' H' v st rs' r => o μ' H' v st rs' r
    | exc e v S1 => rw [hm] at o; exact fun μ' H' σ' c d st re rs' r => o μ' H' c d st rs' r
    | brk e S1 => rw [hm] at o; exact o.elim
    | cont e S1 => rw [hm] at o; exact o.elim
    | stuck => rw [hm] at o; exact o
  · exact o.elim
theorem lamHere_of {X : Cx} {K : PySem.W.Frag} {p : Str × Option Str} {x qual : Str} {params : Arguments} {body : List Stmt} {scope : Scope} {fd : FuncData} (F : FunD K x qual params body scope [] [] (He.fAd K p) fd) (hK : X.K = K) (tb : TabB X.base X.mg (He.cT K p).1 (He.cT K p).2)
    (hc : X.env.code = fd.code) (hq : X.env.qual = qual ++ ".<locals>.") {q : Str} (mem : ((He.cT K p).2, q) ∈ tbs K) (uniq : ∀ r ∈ tbs K, r.1 = (He.cT K p).2 → r.2 = q) (hqq : qual ++ ".<locals>." ++ "<lambda>" = q := by decide +kernel) : LamHere X p := by
  subst hK hqq
  obtain ⟨oc, od, dV, kV, doc, pm, an, cdv, ct, osl, rfl, lk, hcd, _⟩ := F.ex
  obtain ⟨c, rfl⟩ := He.codeIn_ref hcd
  have e := He.codeOf_eq lk (c := c) rfl
  refine ⟨tb, ?_, by rw [hq]; exact mem, fun r hr h => by rw [hq]; exact uniq r hr h⟩
  rw [hc]
  show Value.ref c = .ref (He.codeOf X.K p)
  rw [e]
/-- a def that tells the error of what it is handed -/
structure KindF (P : Program) (w : World) (K : PySem.W.Frag) (mg : Str → Option Value) (base : Heap) (k : Nat) (x : Str) (g : Addr) (hd : Str → Option D) : Prop where
  ex : ∃ (pg : Arguments) (bg : List Stmt) (sg : Scope) (dV kV doc pm cdv ct oc : Value) (an od : Option Addr) (osl : Array (Option Value)) (Ng : List Str) (a : Str),
    K.lookup g = some ⟨oc, od, .func (PySem.W.fnOf x x pg bg sg dV kV doc pm an cdv ct), osl⟩ ∧ PySem.W.codeIn K cdv x = true ∧ L2.Binds K (PySem.W.fnOf x x pg bg sg dV kV doc pm an cdv ct) [a] [] ∧ FnScope Ng [a] sg ∧ Ng[0]? = some a ∧ Vis sg a ∧
    (a == ("__debug__" : Str)) = false ∧ (a == ("__classdict__" : Str)) = false ∧
    ∀ X : Cx, X.prog = P → X.w = w → X.K = K → X.mg = mg → X.base = base → Room (k + 2) X.A → ∀ q, GivesTo X Ng x sg g cdv bg a q (TTk K mg hd)
  kp : PySem.W.keepIn K (.ref g) = true
section
variable {X : Cx} {W : WX}
theorem sE_kind {k : Nat} {x : Str} {g : Addr} {hd : Str → Option D} {p : Str × Option Str} {params : Arguments} {body : Expr} {scope : Scope} {lpos pos ppos : Pos} {m : ME} (kf : KindF X.prog X.w X.K X.mg X.base k x g hd) (hg : Gl X x) (hm : X.mg x = some (.ref g)) (lh : LamHere X p) (hr : Room (k + 2) X.A)
    (L : LamS X.env.scope scope)
    (hbody : ∀ Y : Cx, Y.prog = X.prog → Y.w = X.w → Y.K = X.K → Y.mg = X.mg → Y.base = X.base → Y.N = X.N → Y.env.scope = scope → Y.calm = true → (∀ x, Y.fn x = false) → Room k Y.A → ∀ W, Takes Y W → PE Y body (tE Y W m))
    (hdef : defaultsOf params X.env = ([], []) := by rfl)
    (hbind : ∀ (q : Str) (cl : List (Str × Addr)) (pm cv ctv : Value), bindArgs (PySem.W.kla_fn "<lambda>" q params body scope cl pm cv ctv) ⟨[], []⟩ = pure [] := by intros; rfl)
    (hdb : (x == ("__debug__" : Str)) = false := by decide) : PE X (.Call (.Name x ppos) [.Lambda params body scope lpos] [] pos) (tE X W (eKind hd m)) := by
  obtain ⟨pg, bg, sg, dV, kV, doc, pm, cdv, ct, oc, an, od, osl, Ng, a, lk, hcg, hb, Sg, hNg, hva, hda, hca, hG⟩ := kf.ex
  exact pe_to (pe_lamcall (T := tbs X.K) (TT := TTk X.K X.mg hd) (t := fun E => tE X (fun c d _ H => E c d H) m) (c := (He.cT X.K p).1) (P := (He.cT X.K p).2) hg hm kf.kp lk hcg hb Sg hNg hva (hG X rfl rfl rfl rfl rfl hr _) lh.tb lh.code lh.mem lh.uniq hr L hdef hbind
    (fun A outer s H E f c' hr2 => hbody (lamCx X A outer s H E scope f c') rfl rfl rfl rfl rfl rfl rfl rfl (fun _ => rfl) hr2 (fun c d _ H => E c d H) (takes_of rfl rfl rfl rfl)) hdb hda hca) fun σ H Q h => t_kind h
end
end DL

set_option Elab.async false
set_option linter.all false
set_option maxRecDepth 100000
/-! DL17: the rules as the printed derivations use them. -/
namespace DL
open PySem PySem.Spec PyProof.Rows L2 LamX
theorem ru1 {k : Nat} {A : Around} (r : Room k A) : A.units + 1 < cLine := by have := r.un; omega
theorem ru64 {k : Nat} {A : Around} (r : Room k A) : A.units + 64 < cLine := by have := r.un; omega
theorem ru65 {k : Nat} {A : Around} (r : Room k A) : A.units + 65 < cLine := by have := r.un; omega
/-- a def, whatever its record -/
def FnE (P : Program) (w : World) (K : PySem.W.Frag) (mg : Str → Option Value) (base : Heap) (k : Nat) (f : Addr) (ps : List Str) (m : MF) : Prop := ∃ fd, FnM P w K mg base k f fd ps m
theorem fn_okC {P : Program} {w : World} {K : PySem.W.Frag} {mg : Str → Option Value} {base : Heap} {x qual : Str} {st : Stmt} {f : Addr} {fd : FuncData} {N ps : List Str} {k n : Nat} {m : MS} (F : FunD K x qual (defArgs st) (defBody st) (defScope st) [] [] f fd) (S : FnScope N ps (defScope st)) (hn : N.length - ps.length = n)
    (hb : ∀ (kV doc pm : Value) (an : Option Addr) (cdv ct : Value) (us : List Value), us.length = ps.length → bindArgs (PySem.W.fnOf x qual (defArgs st) (defBody st) (defScope st) .none kV doc pm an cdv ct) ⟨us, []⟩ = pure (ps.zip us))
    (hbody : ∀ (cdv : Value) (A : Around) (outer : List Env) (s : Shared) (H : Hp) (E : XK), fd.code = cdv → PassesOwn (model P w) (cxOf (L2.CX P w) P w K mg base N qual (defScope st) f cdv A outer s H E).A (cxOf (L2.CX P w) P w K mg base N qual (defScope st) f cdv A outer s H E).env (cxOf (L2.CX P w) P w K mg base N qual (defScope st) f cdv A outer s H E).xe →
      Room k (cxOf (L2.CX P w) P w K mg base N qual (defScope st) f cdv A outer s H E).A → ∀ W, Takes (cxOf (L2.CX P w) P w K mg base N qual (defScope st) f cdv A outer s H E) W → PSs (cxOf (L2.CX P w) P w K mg base N qual (defScope st) f cdv A outer s H E) (defBody st) (tS (cxOf (L2.CX P w) P w K mg base N qual (defScope st) f cdv A outer s H E) W m)) : FnM P w K mg base (k + 1) f fd ps (bodyM n m) := by
  have b : Binds K fd ps [] := F.bindsN hb
  obtain ⟨oc, od, dV, kV, doc, pm, an, cdv, ct, osl, rfl, lk, hcd, _⟩ := F.ex
  refine ⟨fn_of lk hcd S (fun vs H Q E h => spD_len h) (fun A outer s H vs Q E hr h => ?_), F.kp, b⟩
  refine ⟨_, hbody cdv A outer s H E rfl (passes_of rfl) hr (fun cls d _ H => E cls d H) (takes_of rfl rfl rfl rfl), ?_⟩
  obtain ⟨ds, So, μ, rs, ra, o⟩ := h
  unfold chk at o
  split at o
  · rename_i hl
    have e0 : n = N.length - ds.length := by rw [hl]; exact hn.symm
    refine ⟨ds.map some ++ List.replicate n none, So, μ, ⟨by rw [e0]; exact relE_start ra, rs⟩, ?_⟩
    unfold bodyM at o
    cases hm : m (ds.map some ++ List.replicate n none) So with
    | next e S1 => rw [hm] at o; exact fun μ' H' σ' st re rs' => o μ' H' .non st rs' rep_none
    | ret d S1 => rw [hm] at o; exact fun μ' H' v st rs' r => o μ' H' v st rs' r
    | exc e v S1 => rw [hm] at o; exact fun μ' H' σ' c d st re rs' r => o μ' H' c d st rs' r
    | brk e S1 => rw [hm] at o; exact o.elim
    | cont e S1 => rw [hm] at o; exact o.elim
    | stuck => rw [hm] at o; exact o
  · exact o.elim
section
variable {X : Cx} {W : WX} {k : Nat} {f C : Addr} {ps : List Str} {m mi : MF} {x nm cn : Str} {p pos apos : Pos} {e o : Expr} {es : List Expr} {r : MA} {ma mv : ME}
theorem qE_gint {i : Int} (hm : ∃ t, X.mg x = some (.int i t)) (hg : Gl X x := by rfl) (hd : (x == ("__debug__" : Str)) = false := by decide) : PE X (.Name x pos) (tE X W (eC (.int i))) := hm.elim fun _ h => sE_gint hg h hd
theorem qE_gstr {i : Str} (hm : ∃ t, X.mg x = some (.str i t)) (hg : Gl X x := by rfl) (hd : (x == ("__debug__" : Str)) = false := by decide) : PE X (.Name x pos) (tE X W (eC (.str i))) := hm.elim fun _ h => sE_gstr hg h hd
theorem qE_call (F : FnE X.prog X.w X.K X.mg X.base k f ps m) (hr : Room k X.A) (hm : X.mg x = some (.ref f)) (tk : Takes X W) (ha : PA X (e :: es) (tAs X W r)) (hg : Gl X x := by rfl) (hdb : (x == ("__debug__" : Str)) = false := by decide)
    (he : starEach (e :: es) X.env = (false, eval e X.env) :: starEach es X.env := by rfl) (hpl : (backTo pos (starEach es X.env)).any (·.1) = false := by rfl) :
    PE X (.Call (.Name x p) (e :: es) [] pos) (tE X W (eCall ps.length m r)) := F.elim fun _ F => sE_call F hr hg hm tk ha hdb he hpl
theorem qE_meth {pl : Sem Bool} (he : PE X o (tE X W ma)) (hC : X.mg cn = some (.ref C)) (c : Cls X.K C) (hm : Meth X.K C nm f) (F : FnE X.prog X.w X.K X.mg X.base k f ps m) (hr : Room k X.A) (tk : Takes X W) (ha : PA X (e :: es) (tAs X W r))
    (hst : starEach (e :: es) X.env = (false, eval e X.env) :: starEach es X.env := by rfl) (hpl : (backTo pos (starEach es X.env)).any (·.1) = false := by rfl)
    (ht : eval (.Call (.Attribute o nm apos) (e :: es) [] pos) X.env = (do
      let ov ← eval o X.env
      standAt apos.atName
      let (f, first) ← holding [ov] (getMethod ov nm pl)
      callWith pos f first (backTo pos (starEach (e :: es) X.env)) (backToKw pos (keywordEach [] X.env))) := by rfl) :
    PE X (.Call (.Attribute o nm apos) (e :: es) [] pos) (tE X W (eMeth cn nm ps.length m ma r)) := F.elim fun _ F => sE_meth he hC c hm F hr tk ha hst hpl ht
theorem qE_meth0 {pl : Sem Bool} (he : PE X o (tE X W ma)) (hC : X.mg cn = some (.ref C)) (c : Cls X.K C) (hm : Meth X.K C nm f) (F : FnE X.prog X.w X.K X.mg X.base k f ps m) (hr : Room k X.A) (tk : Takes X W)
    (ht : eval (.Call (.Attribute o nm apos) [] [] pos) X.env = (do
      let ov ← eval o X.env
      standAt apos.atName
      let (f, first) ← holding [ov] (getMethod ov nm pl)
      callWith pos f first (backTo pos (starEach [] X.env)) (backToKw pos (keywordEach [] X.env))) := by rfl) :
    PE X (.Call (.Attribute o nm apos) [] [] pos) (tE X W (eMeth cn nm ps.length m ma aNil)) := F.elim fun _ F => sE_meth0 he hC c hm F hr tk ht
theorem qE_make (hC : X.mg cn = some (.ref C)) (M : Mk X.K C f) (F : FnE X.prog X.w X.K X.mg X.base k f ps mi) (hr : Room (k + 1) X.A) (tk : Takes X W) (ha : PA X (e :: es) (tAs X W r)) (hg : Gl X cn := by rfl) (hdb : (cn == ("__debug__" : Str)) = false := by decide)
    (he : starEach (e :: es) X.env = (false, eval e X.env) :: starEach es X.env := by rfl) (hpl : (backTo pos (starEach es X.env)).any (·.1) = false := by rfl) :
    PE X (.Call (.Name cn p) (e :: es) [] pos) (tE X W (eMake cn ps.length mi r)) := F.elim fun _ F => sE_make hC M F hr hg tk ha hdb he hpl
theorem q_inl {sc : Scope} {x : Str} (h : sc.names.lookup x = some .local) : Loc sc x := .inl h
end
/-- the lambda, for a text of one's own -/
theorem qE_kind {X : Cx} {W : WX} {k : Nat} {x : Str} {g : Addr} {hd : Str → Option D} {p : Str × Option Str} {params : Arguments} {body : Expr} {scope : Scope} {lpos pos ppos : Pos} {m : ME} (kf : KindF X.prog X.w X.K X.mg X.base k x g hd) (hm : X.mg x = some (.ref g)) (lh : LamHere X p) (hr : Room (k + 2) X.A)
    (L : LamS X.env.scope scope)
    (hbody : ∀ (A : Around) (outer : List Env) (s : Shared) (H : Hp) (E : XK) (f c' : Addr), Room k (lamCx X A outer s H E scope f c').A → ∀ W, Takes (lamCx X A outer s H E scope f c') W → PE (lamCx X A outer s H E scope f c') body (tE (lamCx X A outer s H E scope f c') W m))
    (hg : Gl X x := by rfl) (hdef : defaultsOf params X.env = ([], []) := by rfl)
    (hbind : ∀ (q : Str) (cl : List (Str × Addr)) (pm cv ctv : Value), bindArgs (PySem.W.kla_fn "<lambda>" q params body scope cl pm cv ctv) ⟨[], []⟩ = pure [] := by intros; rfl)
    (hdb : (x == ("__debug__" : Str)) = false := by decide) : PE X (.Call (.Name x ppos) [.Lambda params body scope lpos] [] pos) (tE X W (eKind hd m)) := by
  obtain ⟨pg, bg, sg, dV, kV, doc, pm, cdv, ct, oc, an, od, osl, Ng, a, lk, hcg, hb, Sg, hNg, hva, hda, hca, hG⟩ := kf.ex
  exact pe_to (pe_lamcall (T := tbs X.K) (TT := TTk X.K X.mg hd) (t := fun E => tE X (fun c d _ H => E c d H) m) (c := (He.cT X.K p).1) (P := (He.cT X.K p).2) hg hm kf.kp lk hcg hb Sg hNg hva (hG X rfl rfl rfl rfl rfl hr _) lh.tb lh.code lh.mem lh.uniq hr L hdef hbind
    (fun A outer s H E f c' hr2 => hbody A outer s H E f c' hr2 (fun c d _ H => E c d H) (takes_of rfl rfl rfl rfl)) hdb hda hca) fun σ H Q h => t_kind h
end DL

set_option Elab.async false
set_option linter.all false
set_option maxRecDepth 100000
/-! DL18: what stands in the built-ins. -/
namespace DL
open PySem PySem.Spec PyProof.Rows L2 LamX
theorem bb_len : bootBuiltins "len" = some (.builtin "len") := by decide +kernel
theorem bb_isinstance : bootBuiltins "isinstance" = some (.builtin "isinstance") := by decide +kernel
theorem bb_min : bootBuiltins "min" = some (.builtin "min") := by decide +kernel
theorem bb_max : bootBuiltins "max" = some (.builtin "max") := by decide +kernel
theorem bb_sum : bootBuiltins "sum" = some (.builtin "sum") := by decide +kernel
theorem bb_all : bootBuiltins "all" = some (.builtin "all") := by decide +kernel
theorem bb_any : bootBuiltins "any" = some (.builtin "any") := by decide +kernel
theorem bb_sorted : bootBuiltins "sorted" = some (.builtin "sorted") := by decide +kernel
theorem bb_int : bootBuiltins "int" = some (.type "int") := by decide +kernel
theorem bb_bool : bootBuiltins "bool" = some (.type "bool") := by decide +kernel
theorem bb_str : bootBuiltins "str" = some (.type "str") := by decide +kernel
theorem bb_tuple : bootBuiltins "tuple" = some (.type "tuple") := by decide +kernel
theorem bb_list : bootBuiltins "list" = some (.type "list") := by decide +kernel
theorem bb_dict : bootBuiltins "dict" = some (.type "dict") := by decide +kernel
theorem bb_ValueError : bootBuiltins "ValueError" = some (.type "ValueError") := by decide +kernel
theorem sSs_never {X : Cx} {W : WX} {ss : List Stmt} : PSs X ss (tS X W sStuck) := ⟨fun _ _ _ _ _ _ ⟨_, _, _, _, o⟩ => o.elim⟩
/-! ### the kinds of errors -/
def kinds : List Str := ["BadNet", "BadFleet", "BadClasses", "BadDay", "BadPlace", "BadTime", "BadCount", "BadChain", "NoDuty", "NoLeg", "NoPlane", "NoKind", "Taken", "CannotFly", "NoWay", "NoSeat", "NoClass", "BadName", "NoBooking", "Left", "Unmended", "BadDeed", "BadText"]
/-- what isinstance tells of an error of the class C -/
def ktK (C : Str) : D → Option Bool
  | .glo y => if kinds.contains y = true then some (decide (y = C)) else none
  | .ty n => if n = "ValueError" then some true else none
  | _ => none
/-- what the head tells of the classes cs -/
structure KindFx (K : PySem.W.Frag) (mg : Str → Option Value) (cs : List Str) : Prop where
  gl : ∀ y ∈ kinds, mg y = some (.ref (He.ga K y))
  air : mg "AirError" = some (.ref (He.ga K "AirError"))
  kit : ∀ C ∈ cs, ∀ y ∈ kinds, PySem.W.kitOne K (.ref (He.ga K C)) (.ref (He.ga K y)) = some (decide (y = C))
  val : ∀ C ∈ cs, PySem.W.kitOne K (.ref (He.ga K C)) (.type "ValueError") = some true
  exm : ∀ C ∈ cs, PySem.W.exmOne K (.ref (He.ga K C)) (.ref (He.ga K "AirError")) = some true
  exc : ∀ C ∈ cs, ExcC K (He.ga K C)
  sub : ∀ C ∈ cs, C ∈ kinds
def hdOf (cs : List Str) (C : Str) : Option D := if cs.contains C = true then some (.str C) else none
theorem hk_of {K : PySem.W.Frag} {mg : Str → Option Value} {cs : List Str} (F : KindFx K mg cs) {C : Str} (hC : C ∈ cs) : ∀ c b, ktK C c = some b → ∃ cv, PySem.W.kitOne K (.ref (He.ga K C)) cv = some b ∧ ∀ (μ : Mu) (H : Hp) (v : V), Rep K mg μ H c v → ∀ u, L2.RelV v u → u = cv := by
  intro c b e
  cases c with
  | glo y =>
    unfold ktK at e
    dsimp only at e
    split at e
    · rename_i hy
      have hy : y ∈ kinds := List.contains_iff_mem.mp hy
      cases e
      refine ⟨_, F.kit C hC y hy, fun μ H v r u ru => ?_⟩
      unfold Rep at r
      obtain ⟨a, rfl, ha⟩ := r
      rw [F.gl y hy] at ha
      cases ha
      exact ru
    · cases e
  | ty n =>
    unfold ktK at e
    dsimp only at e
    split at e
    · rename_i hn
      subst hn
      cases e
      refine ⟨_, F.val C hC, fun μ H v r u ru => ?_⟩
      unfold Rep at r
      subst r
      exact ru
    · cases e
  | _ => cases e
theorem excF_of {K : PySem.W.Frag} {x : Str} (h : (He.Fa.exc x).ok K = true) : ExcF K (He.ga K x) := let ⟨a, b, c, d⟩ := He.exc_ok h; ⟨a, b, c, d⟩
theorem cx_false {P : Program} {w : World} {H : Hp} {s : Shared} {e : Value} {s' : Shared} (h : L2.CX P w [] H s (fun _ _ _ => False) e s') : False := by
  obtain ⟨_, _, _, _, _, _, _, _, _, _, _, _, z⟩ := h
  exact z.elim
theorem repAll_ints {K : PySem.W.Frag} {mg : Str → Option Value} {μ : Mu} {H : Hp} : ∀ ns : List Int, RepAll K mg μ H (ns.map .int) (ns.map V.int)
  | [] => .nil
  | n :: ns => .cons (rep_int n) (repAll_ints ns)
/-- where the law begins -/
theorem start_sp {K : PySem.W.Frag} {mg : Str → Option Value} {H : Hp} {a : Addr} {ns : List Int} {m : MF} (hS : SqL K H a (ns.map V.int)) (hT : ∀ p ∈ tbs K, H p.1 = some (.tbl #[])) (hL : ∃ S, m [.ro (ns.map .int)] [] = .ok (.bool true) S) : spD K mg 1 m [.ref a] H (fun v _ => v = .bl true) fun _ _ _ => False := by
  obtain ⟨S, hL⟩ := hL
  have nm : ∀ b : Addr, b ∉ (⟨[], []⟩ : Mu) := fun b z => z.elim (fun z => nomatch z) fun z => nomatch z
  refine ⟨[.ro (ns.map .int)], [], ⟨[], []⟩, ⟨rfl, List.nodup_nil, (fun _ h => by cases h), (fun _ h => by cases h), (fun l o e => by simp at e), fun p hp => TabS.nil (hT p hp)⟩, .cons ?_ .nil, ?_⟩
  · unfold Rep
    refine ⟨a, ns.map V.int, rfl, ?_, repAll_ints ns⟩
    rcases hS with h | h
    · exact .inl ⟨h, nm a⟩
    · exact .inr (.inr h)
  · have e : chk 1 m [.ro (ns.map .int)] [] = .ok (.bool true) S := by
      unfold chk
      exact hL
    rw [e]
    intro μ' H' v st rs r
    have r : Rep K mg μ' H' (.bool true) v := r
    unfold Rep at r
    exact r
/-- the classes' facts, looked at -/
def excB (K : PySem.W.Frag) (D : Addr) : Bool := He.eqO (PySem.W.findIn K (.ref D) "__getattribute__") (some (some (.builtin "BaseException.__getattribute__"))) && He.eqO (PySem.W.findIn K (.ref D) "__getattr__") (some none) &&
  decide (PySem.W.subIn K (.ref D) (.type "BaseException") = some true) && PySem.W.hasDictIn K D && He.eqO (PySem.W.findIn K (.ref D) "__class__") (some (some (.builtin "object.__class__"))) &&
  He.eqO (PySem.W.specialIn K (.builtin "object.__class__") "__get__") (some (some (.builtin "getset_descriptor.__get__"))) && decide (PySem.W.takesIn K (.builtin "object.__class__") = some true) && decide (PySem.W.mroIn K D (.type "object") = some true)
theorem excB_ok {K : PySem.W.Frag} {D : Addr} (h : excB K D = true) : ExcC K D := by
  unfold excB at h
  simp only [Bool.and_eq_true, decide_eq_true_eq] at h
  obtain ⟨⟨⟨⟨⟨⟨⟨h1, h2⟩, h3⟩, h4⟩, h5⟩, h6⟩, h7⟩, h8⟩ := h
  exact ⟨He.eqO_ok h1, He.eqO_ok h2, h3, h4, He.eqO_ok h5, He.eqO_ok h6, h7, h8⟩
def exKinds (K : PySem.W.Frag) (cs : List Str) : Bool := (cs.all fun C => kinds.contains C && (kinds.all fun y => decide (PySem.W.kitOne K (.ref (He.ga K C)) (.ref (He.ga K y)) = some (decide (y = C)))) && decide (PySem.W.kitOne K (.ref (He.ga K C)) (.type "ValueError") = some true) && excB K (He.ga K C))
def exTabs (K : PySem.W.Frag) : Bool := lamDefs.all fun p => (tbs K).all fun r => !(decide (r.1 = (He.cT K p.1).2)) || decide (r.2 = p.2)
theorem exTabs_ok {K : PySem.W.Frag} (h : exTabs K = true) : (∀ p ∈ lamDefs, ((He.cT K p.1).2, p.2) ∈ tbs K) ∧ ∀ p ∈ lamDefs, ∀ r ∈ tbs K, r.1 = (He.cT K p.1).2 → r.2 = p.2 := by
  refine ⟨fun p hp => List.mem_map.mpr ⟨p, hp, rfl⟩, fun p hp r hr e => ?_⟩
  unfold exTabs at h
  simp only [List.all_eq_true, Bool.or_eq_true, Bool.not_eq_true', decide_eq_false_iff_not, decide_eq_true_eq] at h
  rcases h p hp r hr with z | z
  · exact absurd e z
  · exact z
theorem kindFx_of {K : PySem.W.Frag} {h : Heap} {mg : Str → Option Value} {cs : List Str} (X : K.In h) (G : h.Ns mainGlobals mg) (hx : exKinds K cs = true) (h1 : ∀ y ∈ kinds, (He.Fa.glo y).ok K = true) (h2 : (He.Fa.glo "AirError").ok K = true) (h3 : ∀ C ∈ cs, (He.Fa.exm C "AirError" true).ok K = true) : KindFx K mg cs := by
  unfold exKinds at hx
  simp only [List.all_eq_true, Bool.and_eq_true, decide_eq_true_eq] at hx
  exact ⟨fun y hy => He.glo_ok X G (h1 y hy), He.glo_ok X G h2, fun C hC y hy => (hx C hC).1.1.2 y hy, fun C hC => (hx C hC).1.2, fun C hC => He.exm_ok (h3 C hC), fun C hC => excB_ok (hx C hC).2, fun C hC => List.contains_iff_mem.mp (hx C hC).1.1.1⟩
end DL

set_option Elab.async false
set_option linter.all false
set_option maxRecDepth 100000
/-! DL20: the combinators, computed. Printed by evalgen.py. -/
namespace DL
open PySem PySem.Spec PyProof.Rows L2 LamX
@[simp] theorem bind_ok {α β : Type} (a : α) (S : Sto) (f : α → Sto → Res β) : Res.bind (.ok a S) f = f a S := rfl
@[simp] theorem bind_exc {α β : Type} (e : XV) (S : Sto) (f : α → Sto → Res β) : Res.bind (.exc e S) f = .exc e S := rfl
@[simp] theorem bind_stuck {α β : Type} (f : α → Sto → Res β) : Res.bind (.stuck : Res α) f = .stuck := rfl
@[simp] theorem bindS_ok {α β : Type} (a : α) (S : Sto) (f : α → Sto → Res β) : Res.bindS (.ok a S) f = f a S := rfl
@[simp] theorem bindS_exc {α β : Type} (e : XV) (S : Sto) (f : α → Sto → Res β) : Res.bindS (.exc e S) f = .stuck := rfl
@[simp] theorem bindS_stuck {α β : Type} (f : α → Sto → Res β) : Res.bindS (.stuck : Res α) f = .stuck := rfl
@[simp] theorem rs_ok {α : Type} (env : En) (a : α) (S : Sto) (k : α → Sto → RS) : Res.rs env (.ok a S) k = k a S := rfl
@[simp] theorem rs_exc {α : Type} (env : En) (e : XV) (S : Sto) (k : α → Sto → RS) : Res.rs env (.exc e S) k = .exc e env S := rfl
@[simp] theorem rs_stuck {α : Type} (env : En) (k : α → Sto → RS) : Res.rs env (.stuck : Res α) k = .stuck := rfl
@[simp] theorem then_next (e : En) (S : Sto) (k : MS) : RS.andThen (.next e S) k = k e S := rfl
@[simp] theorem then_brk (e : En) (S : Sto) (k : MS) : RS.andThen (.brk e S) k = .brk e S := rfl
@[simp] theorem then_cont (e : En) (S : Sto) (k : MS) : RS.andThen (.cont e S) k = .cont e S := rfl
@[simp] theorem then_ret (d : D) (S : Sto) (k : MS) : RS.andThen (.ret d S) k = .ret d S := rfl
@[simp] theorem then_exc (x : XV) (e : En) (S : Sto) (k : MS) : RS.andThen (.exc x e S) k = .exc x e S := rfl
@[simp] theorem then_stuck (k : MS) : RS.andThen .stuck k = .stuck := rfl
@[simp] theorem ofO_some {α : Type} (S : Sto) (a : α) : ofO S (some a) = .ok a S := rfl
@[simp] theorem ofO_none {α : Type} (S : Sto) : ofO S (none : Option α) = .stuck := rfl
@[simp] theorem ofG_some (p : En × Sto) : ofG (some p) = .next p.1 p.2 := rfl
@[simp] theorem ofG_none : ofG none = .stuck := rfl

@[simp] theorem vt_none  : vt (.none) = .none := rfl
@[simp] theorem view0_none (S : Sto)  : view0 S (.none) = .none := rfl
@[simp] theorem view_none (S : Sto)  : view S (.none) = .none := rfl
@[simp] theorem vt_bool (b : Bool) : vt (.bool b) = .bool b := rfl
@[simp] theorem view0_bool (S : Sto) (b : Bool) : view0 S (.bool b) = .bool b := rfl
@[simp] theorem view_bool (S : Sto) (b : Bool) : view S (.bool b) = .bool b := rfl
@[simp] theorem vt_int (b : Int) : vt (.int b) = .int b := rfl
@[simp] theorem view0_int (S : Sto) (b : Int) : view0 S (.int b) = .int b := rfl
@[simp] theorem view_int (S : Sto) (b : Int) : view S (.int b) = .int b := rfl
@[simp] theorem vt_str (b : Str) : vt (.str b) = .str b := rfl
@[simp] theorem view0_str (S : Sto) (b : Str) : view0 S (.str b) = .str b := rfl
@[simp] theorem view_str (S : Sto) (b : Str) : view S (.str b) = .str b := rfl
@[simp] theorem vt_ty (b : String) : vt (.ty b) = .ty b := rfl
@[simp] theorem view0_ty (S : Sto) (b : String) : view0 S (.ty b) = .ty b := rfl
@[simp] theorem view_ty (S : Sto) (b : String) : view S (.ty b) = .ty b := rfl
@[simp] theorem vt_tup (b : List D) : vt (.tup b) = .tup b := rfl
@[simp] theorem view0_tup (S : Sto) (b : List D) : view0 S (.tup b) = .tup b := rfl
@[simp] theorem view_tup (S : Sto) (b : List D) : view S (.tup b) = .tup b := rfl
@[simp] theorem vt_lst (b : List D) : vt (.lst b) = .lst b := rfl
@[simp] theorem view0_lst (S : Sto) (b : List D) : view0 S (.lst b) = .lst b := rfl
@[simp] theorem view_lst (S : Sto) (b : List D) : view S (.lst b) = .lst b := rfl
@[simp] theorem vt_ro (b : List D) : vt (.ro b) = .ro b := rfl
@[simp] theorem view0_ro (S : Sto) (b : List D) : view0 S (.ro b) = .ro b := rfl
@[simp] theorem view_ro (S : Sto) (b : List D) : view S (.ro b) = .ro b := rfl
@[simp] theorem vt_glo (b : Str) : vt (.glo b) = .glo b := rfl
@[simp] theorem view0_glo (S : Sto) (b : Str) : view0 S (.glo b) = .glo b := rfl
@[simp] theorem view_glo (S : Sto) (b : Str) : view S (.glo b) = .glo b := rfl
@[simp] theorem vt_adr (b : Addr) : vt (.adr b) = .adr b := rfl
@[simp] theorem view0_adr (S : Sto) (b : Addr) : view0 S (.adr b) = .adr b := rfl
@[simp] theorem view_adr (S : Sto) (b : Addr) : view S (.adr b) = .adr b := rfl
@[simp] theorem vt_tpn (b : List D) : vt (.tpn b) = .tup b := rfl
@[simp] theorem vt_loc (l : Nat) : vt (.loc l) = .loc l := rfl
@[simp] theorem view0_tpn (S : Sto) (b : List D) : view0 S (.tpn b) = .tpn b := rfl
@[simp] theorem view_tpn (S : Sto) (b : List D) : view S (.tpn b) = .tup b := rfl
@[simp] theorem view0_loc (S : Sto) (l : Nat) : view0 S (.loc l) = match S[l]? with
  | some (.lst xs) => .lst xs
  | _ => .loc l := rfl
@[simp] theorem view_loc (S : Sto) (l : Nat) : view S (.loc l) = vt (match S[l]? with
  | some (.lst xs) => .lst xs
  | _ => .loc l) := rfl
@[simp] theorem eBin_at (f : Sto → D → D → Option D) (ma mb : ME) (env : En) (S : Sto) : eBin f ma mb env S = (ma env S).bind fun a S => (mb env S).bind fun b S => ofO S (f S a b) := rfl
@[simp] theorem tOf_at (m : ME) (env : En) (S : Sto) : tOf m env S = (m env S).bind fun d S => match d with
  | .bool b => .ok b S
  | _ => .stuck := rfl
@[simp] theorem pNo_at (x0 : En) (S : Sto) : pNo  x0 S = .ok none S := rfl
@[simp] theorem pSome_at (m : ME) (env : En) (S : Sto) : pSome m env S = (m env S).bind fun d S => match d with
  | .int i => .ok (some i) S
  | _ => .stuck := rfl
@[simp] theorem eCut_at (m : ME) (ml mh : MP) (env : En) (S : Sto) : eCut m ml mh env S = (m env S).bind fun d S => (ml env S).bind fun lo S => (mh env S).bind fun hi S => ofO S (fCut (view0 S d) lo hi) := rfl
@[simp] theorem eC_at (d : D) (x0 : En) (S : Sto) : eC d x0 S = .ok d S := rfl
@[simp] theorem eV_at (i : Nat) (env : En) (S : Sto) : eV i env S = match env[i]? with
  | some (some d) => .ok d S
  | _ => .stuck := rfl
@[simp] theorem tTru_at (m : ME) (env : En) (S : Sto) : tTru m env S = (m env S).bind fun d S => ofO S (dTru S d) := rfl
@[simp] theorem tAndM_at (ma mb : MT) (env : En) (S : Sto) : tAndM ma mb env S = (ma env S).bind fun c S => if c = true then mb env S else .ok false S := rfl
@[simp] theorem tOrM_at (ma mb : MT) (env : En) (S : Sto) : tOrM ma mb env S = (ma env S).bind fun c S => if c = true then .ok true S else mb env S := rfl
@[simp] theorem tNotM_at (ma : MT) (env : En) (S : Sto) : tNotM ma env S = (ma env S).bind fun c S => .ok (!c) S := rfl
@[simp] theorem eAnd_at (ma mb : ME) (env : En) (S : Sto) : eAnd ma mb env S = (ma env S).bind fun d S => (ofO S (dTru S d)).bind fun c S => if c = true then mb env S else .ok d S := rfl
@[simp] theorem eOr_at (ma mb : ME) (env : En) (S : Sto) : eOr ma mb env S = (ma env S).bind fun d S => (ofO S (dTru S d)).bind fun c S => if c = true then .ok d S else mb env S := rfl
@[simp] theorem eNot_at (ma : ME) (env : En) (S : Sto) : eNot ma env S = (ma env S).bind fun d S => (ofO S (dTru S d)).bind fun c S => .ok (.bool (!c)) S := rfl
@[simp] theorem eIf_at (tc : MT) (ma mb : ME) (env : En) (S : Sto) : eIf tc ma mb env S = (tc env S).bind fun c S => if c = true then ma env S else mb env S := rfl
@[simp] theorem eNeg_at (ma : ME) (env : En) (S : Sto) : eNeg ma env S = (ma env S).bind fun d S => match d with
  | .int i => .ok (.int (-i)) S
  | _ => .stuck := rfl
@[simp] theorem eChain_at (f g : Sto → D → D → Option D) (ma mb mc : ME) (env : En) (S : Sto) : eChain f g ma mb mc env S = (ma env S).bind fun a S => (mb env S).bind fun b S => match f S a b with
  | some (.bool true) => (mc env S).bind fun c S => ofO S (g S b c)
  | some (.bool false) => .ok (.bool false) S
  | _ => .stuck := rfl
@[simp] theorem aNil_at (x0 : En) (S : Sto) : aNil  x0 S = .ok [] S := rfl
@[simp] theorem aCons_at (m : ME) (r : MA) (env : En) (S : Sto) : aCons m r env S = (m env S).bind fun d S => (r env S).bind fun ds S => .ok (d :: ds) S := rfl
@[simp] theorem eTup_at (r : MA) (env : En) (S : Sto) : eTup r env S = (r env S).bind fun ds S => if ds.length ≤ 1000000 then .ok (.tup ds) S else .stuck := rfl
@[simp] theorem eLst_at (r : MA) (env : En) (S : Sto) : eLst r env S = (r env S).bind fun ds S => if ds.length ≤ 1000000 then .ok (.lst ds) S else .stuck := rfl
@[simp] theorem eLstM_at (r : MA) (env : En) (S : Sto) : eLstM r env S = (r env S).bind fun ds S => if ds.length ≤ 1000000 then .ok (.loc S.length) (S ++ [.lst ds]) else .stuck := rfl
@[simp] theorem eDct_at (t : Bool) (x0 : En) (S : Sto) : eDct t x0 S = .ok (.loc S.length) (S ++ [.dct t []]) := rfl
@[simp] theorem sNil_at (env : En) (S : Sto) : sNil  env S = .next env S := rfl
@[simp] theorem sSeq_at (a b : MS) (env : En) (S : Sto) : sSeq a b env S = (a env S).andThen b := rfl
@[simp] theorem sExpr_at (m : ME) (env : En) (S : Sto) : sExpr m env S = (m env S).rs env fun _ S => .next env S := rfl
@[simp] theorem sRet_at (m : ME) (env : En) (S : Sto) : sRet m env S = (m env S).rs env fun d S => .ret d S := rfl
@[simp] theorem sRetN_at (x0 : En) (S : Sto) : sRetN  x0 S = .ret .none S := rfl
@[simp] theorem sBreak_at (env : En) (S : Sto) : sBreak  env S = .brk env S := rfl
@[simp] theorem sCont_at (env : En) (S : Sto) : sCont  env S = .cont env S := rfl
@[simp] theorem sStuck_at (x0 : En) (x1 : Sto) : sStuck  x0 x1 = .stuck := rfl
@[simp] theorem eStuck_at (x0 : En) (x1 : Sto) : eStuck  x0 x1 = .stuck := rfl
@[simp] theorem sIf_at (tc : MT) (a b : MS) (env : En) (S : Sto) : sIf tc a b env S = (tc env S).rs env fun c S => if c = true then a env S else b env S := rfl
@[simp] theorem gV_at (i : Nat) (d : D) (env : En) (S : Sto) : gV i d env S = some (env.set i (some d), S) := rfl
@[simp] theorem gsNil_at (ds : List D) (env : En) (S : Sto) : gsNil  ds env S = match ds with
  | [] => some (env, S)
  | _ => none := rfl
@[simp] theorem gsCons_at (g : MG) (gs : MGs) (ds : List D) (env : En) (S : Sto) : gsCons g gs ds env S = match ds with
  | d :: ds => (g d env S).bind fun p => gs ds p.1 p.2
  | [] => none := rfl
@[simp] theorem gTupD_at (n : Nat) (gs : MGs) (d : D) (env : En) (S : Sto) : gTupD n gs d env S = match vt d with
  | .tup ds => if ds.length = n then gs ds env S else none
  | _ => none := rfl
@[simp] theorem sAsg_at (m : ME) (g : MG) (env : En) (S : Sto) : sAsg m g env S = (m env S).rs env fun d S => ofG (g d env S) := rfl
@[simp] theorem sPar_at (i j : Nat) (r : MA) (env : En) (S : Sto) : sPar i j r env S = (r env S).rs env fun ds S => match ds with
  | [a, b] => .next ((env.set i (some a)).set j (some b)) S
  | _ => .stuck := rfl
@[simp] theorem sSet_at (i : Nat) (m : ME) (env : En) (S : Sto) : sSet i m env S = (m env S).rs env fun d S => .next (env.set i (some d)) S := rfl
@[simp] theorem sAug_at (i : Nat) (f : Sto → D → D → Option D) (m : ME) (env : En) (S : Sto) : sAug i f m env S = match env[i]? with
  | some (some a) => (m env S).rs env fun b S => match f S a b with
    | some d => .next (env.set i (some d)) S
    | none => .stuck
  | _ => .stuck := rfl
@[simp] theorem iAny_at (m : ME) (env : En) (S : Sto) : iAny m env S = (m env S).bind fun d S => ofO S (iterD S d) := rfl
@[simp] theorem iRng1D_at (r : MA) (env : En) (S : Sto) : iRng1D r env S = (r env S).bind fun ds S => match ds with
  | [.int j] => if smallI j then .ok (.items (rngD 0 j.toNat)) S else .stuck
  | _ => .stuck := rfl
@[simp] theorem iRng2D_at (r : MA) (env : En) (S : Sto) : iRng2D r env S = (r env S).bind fun ds S => match ds with
  | [.int i, .int j] => if smallI i && smallI j then .ok (.items (rngD i (j - i).toNat)) S else .stuck
  | _ => .stuck := rfl
@[simp] theorem iEnumD_at (r : MA) (env : En) (S : Sto) : iEnumD r env S = (r env S).bind fun ds S => match ds.map vt with
  | [.tup xs] => .ok (.items (enumD 0 xs)) S
  | [.lst xs] => .ok (.items (enumD 0 xs)) S
  | [.loc l] => match S[l]? with
    | some (.lst _) => .ok (.liveE l) S
    | _ => .stuck
  | _ => .stuck := rfl
@[simp] theorem iZipD_at (r : MA) (env : En) (S : Sto) : iZipD r env S = (r env S).bind fun ds S => match ds.map vt with
  | [.tup xs, .tup ys] => .ok (.items (zipD xs ys)) S
  | [.lst xs, .lst ys] => .ok (.items (zipD xs ys)) S
  | _ => .stuck := rfl
@[simp] theorem sFor_at (mi : MI) (g : MG) (b : MS) (env : En) (S : Sto) : sFor mi g b env S = (mi env S).rs env fun it S => match it with
  | .items ds => loopI g b ds env S
  | .live l => loopL g b l (lenL S l + 1) 0 env S
  | .liveE l => loopE g b l (lenL S l + 1) 0 env S := rfl
@[simp] theorem compR_at (mi : MI) (g : MG) (tc : MT) (m : ME) (vs : List Nat) (env : En) (S : Sto) : compR mi g tc m vs env S = (mi env S).bind fun it S => match it with
  | .items ds => compI g tc m (wipeE env vs) ds [] S
  | .live l => compL g tc m (wipeE env vs) l (lenL S l + 1) 0 [] S
  | .liveE l => compE g tc m (wipeE env vs) l (lenL S l + 1) 0 [] S := rfl
@[simp] theorem eComp_at (mi : MI) (g : MG) (tc : MT) (m : ME) (vs : List Nat) (env : En) (S : Sto) : eComp mi g tc m vs env S = (compR mi g tc m vs env S).bind fun ds S => .ok (.lst ds) S := rfl
@[simp] theorem eCompM_at (mi : MI) (g : MG) (tc : MT) (m : ME) (vs : List Nat) (env : En) (S : Sto) : eCompM mi g tc m vs env S = (compR mi g tc m vs env S).bind fun ds S => .ok (.loc S.length) (S ++ [.lst ds]) := rfl
@[simp] theorem tYesM_at (x0 : En) (S : Sto) : tYesM  x0 S = .ok true S := rfl
@[simp] theorem chk_at (n : Nat) (m : MF) (ds : List D) (S : Sto) : chk n m ds S = if ds.length = n then m ds S else .stuck := rfl
@[simp] theorem bodyM_at (n : Nat) (m : MS) (ds : List D) (S : Sto) : bodyM n m ds S = match m (ds.map some ++ List.replicate n none) S with
  | .next _ S => .ok .none S
  | .ret d S => .ok d S
  | .exc e _ S => .exc e S
  | _ => .stuck := rfl
@[simp] theorem eCall_at (n : Nat) (m : MF) (r : MA) (env : En) (S : Sto) : eCall n m r env S = (r env S).bind fun ds S => chk n m ds S := rfl
@[simp] theorem eMeth_at (cn nm : Str) (n : Nat) (m : MF) (ma : ME) (r : MA) (env : En) (S : Sto) : eMeth cn nm n m ma r env S = (ma env S).bind fun d S => match d with
  | .loc l => match S[l]? with
    | some (.ins C fs) => if C = cn ∧ (fs.map (·.1)).contains nm = false then (r env S).bind fun ds S => chk n m (.loc l :: ds) S else .stuck
    | _ => .stuck
  | _ => .stuck := rfl
@[simp] theorem eMake_at (cn : Str) (n : Nat) (mi : MF) (r : MA) (env : En) (S : Sto) : eMake cn n mi r env S = (r env S).bind fun ds S => (chk n mi (.loc S.length :: ds) (S ++ [.ins cn []])).bind fun d S' => match d with
  | .none => .ok (.loc S.length) S'
  | _ => .stuck := rfl
@[simp] theorem eFld_at (cn f : Str) (ma : ME) (env : En) (S : Sto) : eFld cn f ma env S = (ma env S).bind fun d S => match d with
  | .loc l => match S[l]? with
    | some (.ins C fs) => if C = cn then ofO S (fs.lookup f) else .stuck
    | _ => .stuck
  | _ => .stuck := rfl
@[simp] theorem sFldM_at (cn f : Str) (ma mv : ME) (env : En) (S : Sto) : sFldM cn f ma mv env S = (mv env S).rs env fun d S => (ma env S).rs env fun o S => match o with
  | .loc l => match S[l]? with
    | some (.ins C fs) => if C = cn ∧ fs.length < 1000 then .next env (S.set l (.ins C (putD f d fs))) else .stuck
    | _ => .stuck
  | _ => .stuck := rfl
@[simp] theorem eB_at (f : BF) (r : MA) (env : En) (S : Sto) : eB f r env S = (r env S).bind fun ds S => ofO S (f S ds) := rfl
@[simp] theorem eM_at (ok : Sto → D → Bool) (f : BM) (ma : ME) (r : MA) (env : En) (S : Sto) : eM ok f ma r env S = (ma env S).bind fun d S => if ok S d then (r env S).bind fun ds S => match f S d ds with
  | some p => .ok p.1 p.2
  | none => .stuck else .stuck := rfl
@[simp] theorem gSubM_at (mo mi : ME) (v : D) (env : En) (S : Sto) : gSubM mo mi v env S = match mo env S with
  | .ok o S => match mi env S with
    | .ok i S => (subPut S o i v).map fun S => (env, S)
    | _ => none
  | _ => none := rfl
@[simp] theorem eRev_at (m : ME) (env : En) (S : Sto) : eRev m env S = (m env S).bind fun d S => match view S d with
  | .lst xs => .ok (.lst xs.reverse) S
  | _ => .stuck := rfl
@[simp] theorem eDictP_at (r : MA) (env : En) (S : Sto) : eDictP r env S = (r env S).bind fun ds S => match ds with
  | [.tpn xs] => match pairsOf xs with
    | some ps => if xs.length ≤ 1000000 then .ok (.loc S.length) (S ++ [.dct false (putAll [] ps)]) else .stuck
    | none => .stuck
  | _ => .stuck := rfl
@[simp] theorem eDComp_at (mi : MI) (g : MG) (tc : MT) (mk mv : ME) (vs : List Nat) (env : En) (S : Sto) : eDComp mi g tc mk mv vs env S = (mi env S).bind fun it S => match it with
  | .items ds => (compDI g tc mk mv (wipeE env vs) ds [] S).bind kD
  | .live _ => .stuck
  | .liveE _ => .stuck := rfl
@[simp] theorem sRaise_at (C : Str) (env : En) (S : Sto) : sRaise C env S = .exc ⟨C, []⟩ env S := rfl
@[simp] theorem eKind_at (hd : Str → Option D) (m : ME) (env : En) (S : Sto) : eKind hd m env S = kindM hd (m env S) := rfl
@[simp] theorem kD_at (kvs : List (D × D)) (S : Sto) : kD kvs S = .ok (.loc S.length) (S ++ [.dct false kvs]) := rfl
@[simp] theorem lv_at (f : D → D → Option D) (S : Sto) (a b : D) : lv f S a b = f (view S a) (view S b) := rfl
@[simp] theorem lv0_at (f : D → D → Option D) (S : Sto) (a b : D) : lv0 f S a b = f (view0 S a) (view0 S b) := rfl
@[simp] theorem oI_at (g : Int → Int → Int) (i j : Int) : oI g (.int i) (.int j) = some (.int (g i j)) := rfl
@[simp] theorem oIC_at (C : Int → Int → Bool) (g : Int → Int → Int) (i j : Int) : oIC C g (.int i) (.int j) = if C i j then some (.int (g i j)) else none := rfl
@[simp] theorem oIB_at (g : Int → Int → Bool) (i j : Int) : oIB g (.int i) (.int j) = some (.bool (g i j)) := rfl
@[simp] theorem dAdd_int (i j : Int) : dAdd (.int i) (.int j) = some (.int (i + j)) := rfl
@[simp] theorem dAdd_str (x y : Str) : dAdd (.str x) (.str y) = if x.length + y.length ≤ 1000000 then some (.str (x ++ y)) else none := rfl
@[simp] theorem dAdd_tup (xs ys : List D) : dAdd (.tup xs) (.tup ys) = if xs.length + ys.length ≤ 1000000 then some (.tup (xs ++ ys)) else none := rfl
@[simp] theorem dAdd_lst (xs ys : List D) : dAdd (.lst xs) (.lst ys) = if xs.length + ys.length ≤ 1000000 then some (.lst (xs ++ ys)) else none := rfl
@[simp] theorem dEq_at (a b : D) : dEq a b = if dok 60 a && dok 60 b then some (.bool (peq a b)) else none := rfl
@[simp] theorem dNe_at (a b : D) : dNe a b = if dok 60 a && dok 60 b then some (.bool (!peq a b)) else none := rfl
@[simp] theorem fIn_at (S : Sto) (a b : D) : fIn S a b = (dIn S a b).map .bool := rfl
@[simp] theorem fNotIn_at (S : Sto) (a b : D) : fNotIn S a b = (dIn S a b).map fun c => .bool (!c) := rfl
@[simp] theorem dIsN_at (a : D) : dIsN a .none = some (.bool (isN a)) := rfl
@[simp] theorem dIsntN_at (a : D) : dIsntN a .none = some (.bool (!isN a)) := rfl
end DL

set_option Elab.async false
set_option linter.all false
set_option maxRecDepth 100000
/-! DL19: what the def makes of an error, computed. -/
namespace DL
open PySem PySem.Spec PyProof.Rows L2 LamX
theorem seq_next {a b : MS} {env env' : En} {S S' : Sto} {r : RS} (h : a env S = .next env' S') (h2 : b env' S' = r) : sSeq a b env S = r := by
  unfold sSeq; rw [h]; exact h2
theorem isE_val {ea : Addr} {kt : D → Option Bool} {c : D} {b : Bool} {env : En} {S : Sto} (h : env[1]? = some (some (.adr ea))) (hk : kt c = some b) : eB (fIsE ea kt) (aCons (eV 1) (aCons (eC c) aNil)) env S = .ok (.bool b) S := by
  simp [eB, aCons, eV, h, fIsE, hk]
theorem isE_cons {ea : Addr} {kt : D → Option Bool} {c : D} {b : Bool} {env : En} {S : Sto} {r : MA} {ds : List D} (h : env[1]? = some (some (.adr ea))) (hk : kt c = some b) (hr : r env S = .ok ds S) : aCons (eB (fIsE ea kt) (aCons (eV 1) (aCons (eC c) aNil))) r env S = .ok (.bool b :: ds) S := by
  show Res.bind (eB (fIsE ea kt) (aCons (eV 1) (aCons (eC c) aNil)) env S) _ = _
  rw [isE_val h hk]
  show Res.bind (r env S) _ = _
  rw [hr]
  rfl
theorem isE_k {C y : Str} {ea : Addr} {env : En} {S : Sto} {r : MA} {ds : List D} (h : env[1]? = some (some (.adr ea))) (hk : kinds.contains y = true) (hr : r env S = .ok ds S) : aCons (eB (fIsE ea (ktK C)) (aCons (eV 1) (aCons (eC (.glo y)) aNil))) r env S = .ok (.bool (decide (y = C)) :: ds) S :=
  isE_cons h (by unfold ktK; simp only [hk, if_true]) hr
theorem set_lst {i : Nat} {r : MA} {env : En} {S : Sto} {ds : List D} (h : r env S = .ok ds S) (hl : ds.length ≤ 1000000) : sSet i (eLst r) env S = .next (env.set i (some (.lst ds))) S := by
  simp [sSet, eLst, h, hl, Res.rs]
theorem set_cat {i j : Nat} {r : MA} {env : En} {S : Sto} {ds xs : List D} (hj : env[j]? = some (some (.lst xs))) (h : r env S = .ok ds S) (hl : ds.length ≤ 1000000) (hl2 : xs.length + ds.length ≤ 1000000) : sSet i (eBin (lv0 dAdd) (eV j) (eLst r)) env S = .next (env.set i (some (.lst (xs ++ ds)))) S := by
  simp [sSet, eBin, eV, eLst, h, hl, hj, hl2, Res.rs]
theorem set_c {i : Nat} {d : D} {env : En} {S : Sto} : sSet i (eC d) env S = .next (env.set i (some d)) S := rfl
theorem set_str {i j : Nat} {x y : Str} {env : En} {S : Sto} (hj : env[j]? = some (some (.str x))) (hl : decide (x.length + y.length ≤ 1000000) = true) : sSet i (eBin (lv0 dAdd) (eV j) (eC (.str y))) env S = .next (env.set i (some (.str (x ++ y)))) S := by
  have hl := of_decide_eq_true hl
  simp [sSet, eBin, eV, hj, hl, Res.rs]
theorem isE_test {ea : Addr} {kt : D → Option Bool} {c : D} {env : En} {S : Sto} (h : env[1]? = some (some (.adr ea))) (hk : kt c = some true) : tNotM (tTru (eB (fIsE ea kt) (aCons (eV 1) (aCons (eC c) aNil)))) env S = .ok false S := by
  unfold tNotM tTru
  rw [isE_val h hk]
  simp [dTru]
theorem or_snd {ta tb : MT} {env : En} {S : Sto} (h1 : ta env S = .ok false S) (h2 : tb env S = .ok false S) : tOrM ta tb env S = .ok false S := by
  simp [tOrM, h1, h2]
theorem if_no {t : MT} {a : MS} {env : En} {S : Sto} (h : t env S = .ok false S) : sIf t a sNil env S = .next env S := by
  simp [sIf, h, Res.rs]
end DL

set_option Elab.async false
set_option linter.all false
set_option maxRecDepth 100000
/-! DL25: a lambda with one parameter, called by a built-in of this frame; sorted by such a key. -/
namespace DL
open PySem PySem.Spec PyProof.Rows L2 LamX
/-- one parameter x; else captured names and globals -/
structure LamS1 (sc scope : Scope) (x : Str) : Prop where
  kind : scope.kind = .function
  co : scope.isCoroutine = false
  gen : scope.isGenerator = false
  par : scope.names.lookup x = some .local
  own : ∀ y ∈ scope.names, y.2 = .local → y.1 = x
  nocell : ∀ y ∈ scope.names, y.2 ≠ .cell
  free : ∀ y ∈ scope.names, y.2 = .free → sc.names.lookup y.1 = some .cell ∨ sc.names.lookup y.1 = some .free
def lamSB1 (sc scope : Scope) (x : Str) : Bool :=
  decide (scope.kind = .function) && !scope.isCoroutine && !scope.isGenerator && decide (scope.names.lookup x = some .local) && scope.names.all fun y => (!decide (y.2 = .local) || decide (y.1 = x)) && !decide (y.2 = .cell) && (!decide (y.2 = .free) || decide (sc.names.lookup y.1 = some .cell) || decide (sc.names.lookup y.1 = some .free))
theorem lamS1_by {sc scope : Scope} {x : Str} (h : lamSB1 sc scope x = true) : LamS1 sc scope x := by
  unfold lamSB1 at h
  simp only [Bool.and_eq_true, Bool.or_eq_true, Bool.not_eq_true', decide_eq_true_eq, decide_eq_false_iff_not, List.all_eq_true] at h
  obtain ⟨⟨⟨⟨h1, h2⟩, h3⟩, h5⟩, h4⟩ := h
  refine ⟨h1, h2, h3, h5, fun y hy e => ?_, fun y hy => (h4 y hy).1.2, fun y hy e => ?_⟩
  · rcases (h4 y hy).1.1 with z | z
    · exact absurd e z
    · exact z
  · rcases (h4 y hy).2 with (z | z) | z
    · exact absurd e z
    · exact .inl z
    · exact .inr z
theorem LamS1.has {X : Cx} {scope : Scope} {x : Str} (L : LamS1 X.env.scope scope x) (ok : X.Ok) : ∀ y ∈ scope.names, y.2 = .free → ∃ c, X.env.cells.lookup y.1 = some c := fun y hy e => by
  rcases L.free y hy e with k | k
  · exact ok.has _ (.inl k)
  · exact ok.has _ (.inr k)
section
variable {X : Cx} {pins : List (Addr × Obj)} {σ : L2.St} {H HZ : Hp} {s s1 : Shared}
theorem lam_start1 {A : Around} {outer : List Env} {E : XK} {scope : Scope} {f c' : Addr} {h₁ : Heap} {tk : Nat} {x : Str} {i : Nat} {v : V} {u : Value} (I : Inv X pins σ H s) (L : LamS1 X.env.scope scope x) (nd : X.N.Nodup) (hi : X.N[i]? = some x) (rv : L2.RelV v u) (e0 : Env0 X.prog X.w X.K X.mg X.base A outer s1 HZ) (hd : A.handled = none)
    (un : Un (frs X.stack) [] H HZ s.heap s1.heap) (hns : h₁.Ns s1.heap.objs.size fun y => ([(x, u)] : List (Str × Value)).reverse.lookup y) (kp : ∀ b o, s1.heap.get? b = some o → h₁.get? b = some o) :
    Inv (lamCx X A outer s1 HZ E scope f c') [] (σ.set i (some v)) HZ { s1 with heap := h₁, toks := tk } := by
  have hfree := L.has I.ok
  have cm : ∀ {y c}, (cloFrom X.env.cells scope.names []).lookup y = some c → X.env.cells.lookup y = some c := fun {y c} e => by
    rcases cloFrom_mem (PySem.mem_of_lookup e) with hm | ⟨h1, h2⟩
    · cases hm
    · obtain ⟨c1, hc⟩ := hfree _ h1 rfl
      have hc : X.env.cells.lookup y = some c1 := hc
      have e2 : c = c1 := by
        rw [h2, hc] <;> rfl
      rw [e2]
      exact hc
  have look : ∀ {y}, scope.names.lookup y = some .free → ∃ c, (cloFrom X.env.cells scope.names []).lookup y = some c := fun {y} hl => by
    have hy : (y, NameKind.free) ∈ scope.names := PySem.mem_of_lookup hl
    exact mem_lookup (cloFrom_has (cells := X.env.cells) (acc := []) hy)
  have cellK : ∀ {c : Addr} {v : Option Value}, H c = none → s.heap.IsCell c v → h₁.IsCell c v := fun {c v} n ⟨o, ho, hd⟩ => by
    obtain ⟨sl, q⟩ := un.any ho n (by simp)
    exact ⟨_, kp _ _ q, hd⟩
  have noA : ∀ b : Addr, b ∉ (lamCx X A outer s1 HZ E scope f c').ex := fun b z => absurd (show b ∈ ([] : List Addr) from z) (by simp)
  have hil : i < σ.length := by rw [I.len]; exact (List.getElem?_eq_some_iff.mp hi).1
  refine ⟨⟨e0.mod, L.kind, rfl, rfl, Nat.le_refl _, fun y z c e1 e2 => I.ok.inj y z c (cm e1) (cm e2), fun y hy => ?_, fun y c z _ => ?_, fun _ => hd, Around.frames_deeper e0.frames, .inr ⟨rfl, rfl⟩, fun b z => absurd z (noA b), e0.bs, e0.bsz, fun b _ _ => noA b,
      fun b z => absurd z (noA b), e0.funs, e0.frf⟩,
    rfl, e0.bare, Un.kept kp, ⟨_, hns, fun j y v' e1 e2 e3 => ?_⟩, fun y c e => ?_, e0.hok.fresh (Nat.le_refl _), fun y c e => ?_, fun q hq => absurd (show q ∈ ([] : List (Addr × Obj)) ++ [] from hq) (by simp), e0.hok.kept kp, by rw [List.length_set]; exact I.len⟩
  · have hy : scope.names.lookup y = some .cell ∨ scope.names.lookup y = some .free := hy
    rcases hy with hy | hy
    · exact absurd rfl (L.nocell _ (PySem.mem_of_lookup hy))
    · exact look hy
  · have z : false = true := z
    cases z
  · have e3 : Vis scope y := e3
    by_cases hj : j = i
    · subst hj
      have hyx : y = x := Option.some.inj (e1.symm.trans hi)
      subst hyx
      rw [List.getElem?_set_self hil] at e2
      cases e2
      refine ⟨u, rv, .inl ⟨L.par, ?_⟩⟩
      simp [List.lookup]
    · rw [List.getElem?_set_ne (Ne.symm hj)] at e2
      have hyx : y ≠ x := fun z => hj (nodup_ix nd (by rw [z] at e1; exact e1) hi)
      rcases e3 with k | k | k
      · exact absurd (L.own _ (PySem.mem_of_lookup k) rfl) hyx
      · exact absurd rfl (L.nocell _ (PySem.mem_of_lookup k))
      · obtain ⟨m, hn, hl⟩ := I.loc
        have hvis : Vis X.env.scope y := (L.free _ (PySem.mem_of_lookup k) rfl).elim (fun k => .inr (.inl k)) (fun k => .inr (.inr k))
        obtain ⟨w', r, q⟩ := hl j y v' e1 e2 hvis
        obtain ⟨c2, h2⟩ := look k
        refine ⟨w', r, .inr ⟨.inr k, c2, h2, ?_⟩⟩
        have c1 := cm h2
        rcases q with ⟨k', _⟩ | ⟨_, c3, e', z⟩
        · have k' : X.env.scope.names.lookup y = some .local := k'
          rcases L.free _ (PySem.mem_of_lookup k) rfl with k2 | k2 <;> rw [show X.env.scope.names.lookup y = _ from k2] at k' <;> cases k'
        · rw [c1] at e'
          cases e'
          exact cellK (I.freeC y _ c1) z
  · obtain ⟨w', z⟩ := I.cell y c (cm e)
    exact ⟨w', cellK (I.freeC y c (cm e)) z⟩
  · obtain ⟨v, o, ho, hd⟩ := I.cell y c (cm e)
    exact un.free c o ho (I.freeC y c (cm e)) (by simp)
/-- f(u), f such a lambda, by a built-in called in this frame -/
theorem lam1_call {A : Around} {f c' : Addr} {pm ctv : Value} {params : Arguments} {body : Expr} {scope : Scope} {k i : Nat} {x : Str} {v : V} {u : Value} {tb : TE} {Q : VK} (I : Inv X pins σ H s) (hA : Env0 X.prog X.w X.K X.mg X.base A X.stack s H) (L : LamS1 X.env.scope scope x) (nd : X.N.Nodup) (hi : X.N[i]? = some x)
    (hf : s.heap.get? f = some (PySem.W.kla_obj "<lambda>" (X.env.qual ++ "<lambda>") params body scope (cloFrom X.env.cells scope.names []) pm c' ctv)) (hco : H c' = some (CodeO c' (X.env.qual ++ "<lambda>")))
    (hbind : bindArgs (PySem.W.kla_fn "<lambda>" (X.env.qual ++ "<lambda>") params body scope (cloFrom X.env.cells scope.names []) pm (.ref c') ctv) ⟨[u], []⟩ = pure [(x, u)])
    (hr : Room (k + 1) A) (rv : L2.RelV v u)
    (hbody : ∀ (A : Around) (outer : List Env) (s : Shared) (H : Hp), Room k (A.deeper (lamEnv X scope s.heap.objs.size f c')) → PE (lamCx X A outer s H (fun _ _ _ => False) scope f c') body tb) (h : tb (σ.set i (some v)) H Q) :
    wpAny (model X.prog X.w) A (PySem.call (.ref f) [u]) (EP X pins σ Q) (fun _ _ => False) s := by
  obtain ⟨⟨oc, vs, t, hoc, hdc, hvc⟩, _, _⟩ := I.hok c' _ hco
  have rc : codeAny (model X.prog X.w) A (.call (.ref f) ⟨[u], []⟩) (CR (L2.CX X.prog X.w) X.stack X.prog X.w H s Q (fun _ _ _ => False)) s := by
    refine PySem.W.kla_callFunE hr.depth hf rfl L.co L.gen rfl ⟨c', oc, vs, t, rfl, hoc, hdc, hvc⟩ ?_
    rw [hbind]
    refine wpAny_pure (wpAny_newFunctionEnv (fun y hy => L.nocell y hy) (fun y hy => by rw [List.mem_singleton.mp hy]; exact L.par) (fun h₁ hns hsb => ⟨I.nolimit.fresh _ hsb, ?_⟩) L.kind)
    show codeAny _ _ (.expr body (lamEnv X scope s.heap.objs.size f c')) _ _
    have kp : ∀ b o, s.heap.get? b = some o → h₁.get? b = some o := fun b o e => hsb.extBut b o (Nat.ne_of_lt (Heap.lt_size e)) (Heap.get?_push_of_some _ e)
    have J : Inv (lamCx X A X.stack s H (fun _ _ _ => False) scope f c') [] (σ.set i (some v)) H { s with heap := h₁, toks := s.toks + ([(x, u)] : List (Str × Value)).length } :=
      lam_start1 I L nd hi rv hA hr.hd Un.refl hns kp
    refine PySem.W.kla_codeExpr (wpAny_mono ((hbody _ _ s H (hr.deeper _)).run [] _ _ H Q J h) (fun v s' hq => ?_) fun e s' hq => hq)
    obtain ⟨w', H', J', rv, q⟩ := hq
    exact ⟨w', H', J'.os, J'.bare, J'.base, J'.hok, rv, q⟩
  refine wpAny_call (codeAny_mono rc fun r s' hq => ?_)
  cases r with
  | error e =>
    have hq : L2.CX X.prog X.w X.stack H s (fun _ _ _ => False) e s' := hq
    obtain ⟨_, _, _, _, _, _, _, _, _, _, _, _, _, _, _, _, z⟩ := hq
  | ok fl =>
    cases fl with
    | ret u => exact I.after hq
    | next => exact False.elim hq
    | brk => exact False.elim hq
    | cont => exact False.elim hq
end
end DL

set_option Elab.async false
set_option linter.all false
set_option maxRecDepth 100000
set_option maxHeartbeats 4000000
/-! DL26: sorted(xs, key=lambda x: ..), the key told by this layer's own readings. -/
namespace DL
open PySem PySem.Spec PyProof.Rows L2 LamX PySem.W
section
variable {prog : Program} {w : World} {A : Around} {E : Value → Shared → Prop} {s : Shared} {a kS : Addr} {vs : List Value} {keys : Array Value} {e e1 : Nat} {P : PySem.Fin → Shared → Prop} {kz : List PyData}
/-- all but two objects kept -/
def Keeps2 (a kS : Addr) (h h' : Heap) : Prop := ∀ b o, b ≠ a → b ≠ kS → h.get? b = some o → h'.get? b = some o
theorem keyT_tail {st : SortSt} {out : List Value} (nk : s.heap.get? kS = some (seqObj "list" keys e)) (na : s.heap.get? a = some (seqObj "list" #[] e1)) (hka : kS ≠ a)
    (hsz : keys.size ≤ sizeLine) (hz : out.length ≤ sizeLine) (hfl : failedOf st = none) (ho : (arrOf st).map (·.2) = out.toArray)
    (h : ∀ h' tk c, Keeps2 a kS s.heap h' → (∃ o, h'.get? kS = some o) → h'.get? a = some (seqObj "list" out.toArray c) → P (.done (.ret .none)) { s with heap := h', toks := tk }) :
    wpAny (model prog w) A (ksk_tail a false e1 (.ref kS) st) P E s := by
  have s1 := Heap.SameBut.update s.heap kS (Obj.mapSeq fun _ => (#[] : Array Value))
  have na1 : (s.heap.update kS (Obj.mapSeq fun _ => (#[] : Array Value))).get? a = some (seqObj "list" #[] e1) := (s1.2 a hka.symm).trans na
  have s2 := Heap.SameBut.update (s.heap.update kS (Obj.mapSeq fun _ => (#[] : Array Value))) a (Obj.mapSeq fun _ => out.toArray)
  obtain ⟨c2, hc2⟩ : ∃ c2, ((s.heap.update kS (Obj.mapSeq fun _ => (#[] : Array Value))).update a (Obj.mapSeq fun _ => out.toArray)).get? a = some (seqObj "list" out.toArray c2) :=
    ⟨_, get?_update_seq na1 fun _ => out.toArray⟩
  obtain ⟨c1, hc1⟩ : ∃ c1, (s.heap.update kS (Obj.mapSeq fun _ => (#[] : Array Value))).get? kS = some (seqObj "list" #[] c1) := ⟨_, get?_update_seq nk fun _ => #[]⟩
  have hz2 : out.toArray.size ≤ sizeLine + 1 := by
    rw [List.size_toArray]
    exact Nat.le_succ_of_le hz
  unfold ksk_tail
  try dsimp only
  rw [if_neg Bool.false_ne_true, ho]
  refine wpAny_bind (listUpdate_at nk rfl ?_ hsz (Nat.zero_le _))
  refine wpAny_bind (wpAny_letGo ?_)
  refine wpAny_bind (seqEpoch_at na1 rfl ?_)
  refine wpAny_bind (listUpdate_at na1 rfl ?_ (Nat.zero_le _) hz2)
  rw [hfl]
  simp only [bne_self_eq_false, Bool.false_eq_true, if_false]
  exact wpAny_pure (h _ _ c2 (fun b o h1 h2 q => (s2.2 b h1).trans ((s1.2 b h2).trans q)) ⟨_, (s2.2 kS hka).trans hc1⟩ hc2)
theorem keyT_end {κ : PyProof.Rows.KeyKind} (nk : s.heap.get? kS = some (seqObj "list" keys e)) (na : s.heap.get? a = some (seqObj "list" #[] e1)) (hka : kS ≠ a)
    (S : SortsAt prog w A s κ keys.toList) (hsz : keys.size = vs.length) (hZ : vs.length ≤ sizeLine)
    (h : ∀ h' tk c, Keeps2 a kS s.heap h' → (∃ o, h'.get? kS = some o) → h'.get? a = some (seqObj "list" (sortVals κ false keys.toList vs).toArray c) → P (.done (.ret .none)) { s with heap := h', toks := tk }) :
    wpAny (model prog w) A (ksk_end a false vs.toArray e1 (.ref kS) keys) P E s := by
  obtain ⟨kd, h1, h2⟩ := S.kind
  have hkl : keys.toList.length = vs.length := by
    rw [Array.length_toList]
    exact hsz
  have hK : PyProof.Rows.KeysOf κ (keys.zip vs.toArray) := keysOf_zip S.keys
  have hol : (sortVals κ false keys.toList vs).length = vs.length := sortVals_length false hkl
  have hss : (keys.zip vs.toArray).size = vs.length := by rw [Array.size_zip, hsz, List.size_toArray, Nat.min_self]
  have fin : ∀ st' : SortSt, (arrOf st').Perm (keys.zip vs.toArray) → SortedToK κ (arrOf st') (keys.zip vs.toArray).size →
      Stable κ (arrOf st') (keys.zip vs.toArray) → (arrOf st').map (·.2) = (sortVals κ false keys.toList vs).toArray := by
    intro st' hp hs ht
    have e := sort_out (rev := false) (keys := keys) (items := vs.toArray) (xs := arrOf st') (κ := κ) hK hp hs ht
    have e' := congrArg List.toArray e
    rw [Array.toArray_toList] at e'
    exact e'
  unfold ksk_end
  try dsimp only
  rw [if_neg Bool.false_ne_true, if_neg Bool.false_ne_true]
  by_cases hl2 : vs.toArray.size < 2
  · rw [if_pos hl2, if_pos hl2]
    refine wpAny_bind (wpAny_pure ?_)
    rw [StateT.run_pure]
    refine wpAny_bind (wpAny_pure ?_)
    try dsimp only
    refine keyT_tail (st := SortSt.mk' general' (keys.zip vs.toArray) #[] 7 none) nk na hka (by rw [hsz]; exact hZ) (by rw [hol]; exact hZ) rfl (fin _ (Array.Perm.refl _) ?_ (Stable.refl _)) h
    intro i j hij hj
    rw [hss] at hj
    rw [List.size_toArray] at hl2
    have : i = j := by omega
    subst this
    exact KeyOrd.kle_refl _
  · rw [if_neg hl2, if_neg hl2]
    rw [List.size_toArray] at hl2
    refine wpAny_bind (h2 (by omega) _ ?_)
    refine wpAny_bind (wpAny_mono (H.wpS_sortRunsSt (κ := κ) (kd := kd) (a₀ := keys.zip vs.toArray)
      (st := SortSt.mk' kd (keys.zip vs.toArray) #[] 7 none)
      (Q := fun _ st' => failedOf st' = none ∧ (arrOf st').map (·.2) = (sortVals κ false keys.toList vs).toArray)
      h1 hK ⟨Array.Perm.refl _, rfl, rfl⟩ rfl (Stable.refl _) (by rw [hss]; omega) fun st' a1 a2 a3 a4 => ⟨a2, fin st' a1 a3 a4⟩) ?_ fun _ _ e => e)
    rintro ⟨⟨⟩, st'⟩ s' ⟨rfl, hf, ho⟩
    try dsimp only at ho ⊢
    exact keyT_tail nk na hka (by rw [hsz]; exact hZ) (by rw [hol]; exact hZ) hf ho h
end
section
variable {X : Cx} {pins : List (Addr × Obj)} {σ : L2.St} {H : Hp} {s : Shared} {h' : Heap}
/-- two untracked records of ours have turned -/
theorem inv_turned2 {t' : Nat} {a kS : Addr} (I : Inv X pins σ H s) (k : Keeps2 a kS s.heap h') (fa : FpOk X pins H a) (fk : FpOk X pins H kS) : Inv X pins σ H { s with heap := h', toks := t' } := by
  have nit : ∀ b u, H b = some u → b ≠ a ∧ b ≠ kS := fun b u e => ⟨fun z => (by rw [z, fa.1] at e; cases e), fun z => (by rw [z, fk.1] at e; cases e)⟩
  refine I.step (g' := s.gens) (d' := s.drawn) (ch := [a, kS]) (fun b hb => ?_) (fun b o _ _ hc e _ => k b o (fun z => hc (by simp [z])) (fun z => hc (by simp [z])) e) (fun b o _ _ hc e _ => ⟨o.slots, k b o (fun z => hc (by simp [z])) (fun z => hc (by simp [z])) e⟩) (fun _ _ _ _ n => n)
    (fun b o hc e => ⟨o, k b o (fun z => hc (by simp [z])) (fun z => hc (by simp [z])) e⟩) (fun _ _ e => e) (fun _ _ _ e => e) (fun b ps e => ⟨#[], by rw [e]; simp⟩) (fun m hm => ?_) (fun b u e => ?_) I.bare
  · have e : b = a ∨ b = kS := by simpa using hb
    rcases e with rfl | rfl
    · exact ⟨fa.2.2.2.1, fa.2.1, fa.2.2.2.2.1, fa.2.2.2.2.2⟩
    · exact ⟨fk.2.2.2.1, fk.2.1, fk.2.2.2.2.1, fk.2.2.2.2.2⟩
  · obtain ⟨o, es, ep, ho, r⟩ := hm
    exact ⟨o, es, ep, k _ o (Ne.symm fa.2.1) (Ne.symm fk.2.1) ho, r⟩
  · refine (I.hok b u e).stay (fun c v hc q => k c v ?_ ?_ q) (fun _ q => q) fun _ _ q => q
    · rcases hc with z | z
      · rw [z]; exact (nit b u e).1
      · exact (nit c _ z).1
    · rcases hc with z | z
      · rw [z]; exact (nit b u e).2
      · exact (nit c _ z).2
theorem fpOk_of {H' : Hp} {pins' : List (Addr × Obj)} {a : Addr} (f : FpOk X pins H a) (h : H' a = none) (hp : ∀ p ∈ pins', p.1 ≠ a) : FpOk X pins' H' a :=
  ⟨h, f.2.1, f.2.2.1, f.2.2.2.1, f.2.2.2.2.1, fun p hq => (List.mem_append.mp hq).elim (fun z => f.2.2.2.2.2 p (List.mem_append_left _ z)) (hp p)⟩
theorem each_imp {α β : Type} {R R' : α → β → Prop} : ∀ {as : List α} {bs : List β}, EachIs R as bs → (∀ x y, R x y → R' x y) → EachIs R' as bs
  | _, _, .nil, _ => .nil
  | _, _, .cons h t, i => .cons (i _ _ h) (each_imp t i)
/-- the keys are told one by one -/
theorem keyI_rest {A : Around} {E : Value → Shared → Prop} {f a kS : Addr} {vs : List Value} {kz : List PyData} {e1 : Nat} {P : PySem.Fin → Shared → Prop} {fo : Obj} (G : List V → Hp → Prop) (I : Inv X pins σ H s)
    (nk : s.heap.get? kS = some (seqObj "list" #[] 0)) (na : s.heap.get? a = some (seqObj "list" #[] e1)) (hka : kS ≠ a) (fa : FpOk X pins H a) (fk : FpOk X pins H kS)
    (hf : s.heap.get? f = some fo) (hfn : H f = none) (hfl : f ≠ X.env.locals) (hfs : f ∉ X.fs) (hfc : ∀ v, fo.data ≠ .cell v) (hfa : f ≠ a) (hfk : f ≠ kS)
    (hlen : kz.length = vs.length) (hZ : vs.length ≤ sizeLine) (hal : AllAlike kz) (hsk : Sortable kz) (hu : ∀ d, d ∈ kz → A.units + d.depth < cLine) (G0 : G [] H)
    (turn : ∀ (v : Value) (pins' : List (Addr × Obj)) (s' : Shared) (H' : Hp) (kvs : List V), vs[kvs.length]? = some v → Inv X pins' σ H' s' → s'.heap.get? f = some fo → H' f = none → G kvs H' →
      wpAny (model X.prog X.w) A (PySem.call (.ref f) [v]) (EP X pins' σ fun kv H'' => G (kvs ++ [kv]) H'') (fun _ _ => False) s')
    (reads : ∀ (pins' : List (Addr × Obj)) (s' : Shared) (H' : Hp) (kvs : List V) (us : List Value), Inv X pins' σ H' s' → G kvs H' → kvs.length = vs.length → Vals kvs us → EachIs (fun u d => ∃ as, Reads s'.heap u d as) us kz)
    (h : ∀ s' H' kvs out c, Inv X pins σ H' s' → G kvs H' → kvs.length = vs.length → H' a = none → s'.heap.get? a = some (seqObj "list" (List.toArray out) c) → KeyedOut false kz vs out → P (.done (.ret .none)) s') :
    wpAny (model X.prog X.w) A (ksk_rest a (.ref f) false vs.toArray e1 (.ref kS)) P E s := by
  unfold ksk_rest
  refine wpAny_bind (wpAny_rule ?_)
  first
    | rw [List.forIn_toArray]
    | (rw [← Array.forIn_toList]; simp only [List.toList_toArray])
    | rw [← Array.forIn_toList]
  refine wpAny_bind (ksk_fold (fun j s' => ∃ (kA : Array Value) (e : Nat) (H' : Hp) (kvs : List V), Inv X pins σ H' s' ∧ s'.heap.get? kS = some (seqObj "list" kA e) ∧ s'.heap.get? a = some (seqObj "list" #[] e1) ∧ s'.heap.get? f = some fo ∧ H' a = none ∧ H' kS = none ∧ H' f = none ∧ Vals kvs kA.toList ∧ kvs.length = j ∧ G kvs H') vs 0 s
    ⟨#[], 0, H, [], I, nk, na, hf, fa.1, fk.1, hfn, .nil, rfl, G0⟩ ?step ?done)
  case step =>
    rintro j x s' hx ⟨kA, e, H', kvs, I', nk', na', hf', ha', hk', hff', rv, hkl, g⟩
    simp only [Nat.zero_add] at hkl ⊢
    have hj : j < vs.length := (List.getElem?_eq_some_iff.mp hx).1
    have hz : kA.size ≤ vs.length := by
      have := rv.length
      simp at this
      omega
    have np : ∀ p ∈ pins, p.1 ≠ a ∧ p.1 ≠ kS := fun p hp => ⟨fa.2.2.2.2.2 p (List.mem_append_right _ hp), fk.2.2.2.2.2 p (List.mem_append_right _ hp)⟩
    have Ip : Inv X (pins ++ [(a, seqObj "list" #[] e1), (kS, seqObj "list" kA e), (f, fo)]) σ H' s' := I'.pins_of fun p hp => by
      rcases List.mem_append.mp hp with z | z
      · exact I'.pin p (List.mem_append_right _ z)
      · simp only [List.mem_cons, List.not_mem_nil, or_false] at z
        rcases z with rfl | rfl | rfl
        · exact ⟨na', ha', fa.2.1, fa.2.2.1, fun v z => by cases z⟩
        · exact ⟨nk', hk', fk.2.1, fk.2.2.1, fun v z => by cases z⟩
        · exact ⟨hf', hff', hfl, hfs, hfc⟩
    refine wpAny_bind (wpAny_attempt (wpAny_mono (turn x _ s' H' kvs (by rw [hkl]; exact hx) Ip hf' hff' g) (fun v s'' he => ?_) fun _ _ hF => hF.elim))
    obtain ⟨kv, H2, I2, rkv, g2⟩ := he
    have pa := I2.pin (a, seqObj "list" #[] e1) (List.mem_append_right _ (List.mem_append_right _ (by simp)))
    have pk := I2.pin (kS, seqObj "list" kA e) (List.mem_append_right _ (List.mem_append_right _ (by simp)))
    have pf := I2.pin (f, fo) (List.mem_append_right _ (List.mem_append_right _ (by simp)))
    have I3 : Inv X pins σ H2 s'' := I2.pins_of fun p hp => I2.pin p (List.mem_append_right _ (List.mem_append_left _ hp))
    try dsimp only
    have s1 := Heap.SameBut.update s''.heap kS (Obj.mapSeq (·.push v))
    obtain ⟨c2, hc2⟩ : ∃ c2, (s''.heap.update kS (Obj.mapSeq (·.push v))).get? kS = some (seqObj "list" (kA.push v) c2) := ⟨_, get?_update_seq pk.1 (·.push v)⟩
    have fk2 : FpOk X pins H2 kS := fpOk_of fk pk.2.1 fun p hp => (np p hp).2
    refine wpAny_bind (listUpdate_at pk.1 rfl ?_ (Nat.le_trans hz hZ) (Nat.le_trans (Nat.le_of_eq (Array.size_push ..)) (Nat.succ_le_succ (Nat.le_trans hz hZ))))
    have I4 : Inv X pins σ H2 { s'' with heap := s''.heap.update kS (Obj.mapSeq (·.push v)) } := I3.turned (t' := s''.toks) (it := kS) (fun b o hb q => (s1.2 b hb).trans q) fk2.1 fk2.2.1 fk2.2.2.2.1 fk2.2.2.2.2.1 fk2.2.2.2.2.2
    have rv2 : Vals (kvs ++ [kv]) (kA.push v).toList := by
      rw [Array.toList_push]
      exact Vals.append rv (.cons rkv .nil)
    exact wpAny_pure ⟨rfl, kA.push v, c2, H2, kvs ++ [kv], I4, hc2, (s1.2 a hka.symm).trans pa.1, (s1.2 f hfk).trans pf.1, pa.2.1, pk.2.1, pf.2.1, rv2, by simp [hkl], g2⟩
  case done =>
    rintro s' ⟨kA, e, H', kvs, I', nk', na', hf', ha', hk', hff', rv, hkl, g⟩
    have hkl : kvs.length = vs.length := by simpa using hkl
    have hr := reads pins s' H' kvs kA.toList I' g hkl rv
    have hsz : kA.size = vs.length := by
      have := rv.length
      simp at this
      omega
    have np : ∀ p ∈ pins, p.1 ≠ a ∧ p.1 ≠ kS := fun p hp => ⟨fa.2.2.2.2.2 p (List.mem_append_right _ hp), fk.2.2.2.2.2 p (List.mem_append_right _ hp)⟩
    try dsimp only
    refine wpAny_bind (listItems_at nk' rfl ?_)
    exact keyT_end (κ := dataKind s'.heap kz) nk' na' hka (SortsAt.data (s := s') hr hal hsk hu) hsz hZ fun h3 tk3 c k3 _ n3 =>
      h _ H' kvs _ c (inv_turned2 I' k3 (fpOk_of fa ha' fun p hp => (np p hp).1) (fpOk_of fk hk' fun p hp => (np p hp).2)) g hkl ha' n3 ⟨s'.heap, kA.toList, hal, rfl, hr⟩
end
end DL

set_option Elab.async false
set_option linter.all false
set_option maxRecDepth 100000
set_option maxHeartbeats 4000000
/-! DL27: the rule for sorted(xs, key=lambda x: ..). -/
namespace DL
open PySem PySem.Spec PyProof.Rows L2 LamX PySem.W
section
variable {X : Cx} {pins : List (Addr × Obj)} {σ : L2.St} {H : Hp} {s : Shared} {h' : Heap}
/-- an untracked object of ours is tracked from now on -/
theorem inv_track {a : Addr} {o : HO} (I : Inv X pins σ H s) (fa : FpOk X pins H a) (hz : X.s_0.heap.objs.size ≤ a) (new : ObjOk X.prog X.w (upd H a o) s.heap a o) : Inv X pins σ (upd H a o) s := by
  have nn : ∀ b u, H b = some u → b ≠ a := fun b u e z => by rw [z, fa.1] at e; cases e
  have na : ∀ b : Addr, b ≠ a → upd H a o b = H b := fun b n => upd_ne n
  have n0 : ∀ b ob, X.s_0.heap.get? b = some ob → b ≠ a := fun b ob e z => absurd (Nat.lt_of_lt_of_le (Heap.lt_size e) (by rw [z]; exact hz)) (Nat.lt_irrefl _)
  refine ⟨I.ok, I.os, I.bare, ⟨fun b ob e n hb hx => I.base.keep b ob e n hb hx, fun b ob e n hb hx => I.base.slot b ob e n hb hx, fun b ob e n hx => by rw [na b (n0 b ob e)]; exact I.base.free b ob e n hx, fun b ob e hx => I.base.there b ob e hx, fun b xs e => ?_, fun b ob xs e => ?_, fun b ps e => ?_⟩, I.loc, I.cell, ?_, fun x c e => ?_, fun p hp => ?_, fun b u e => ?_, I.len⟩
  · have := I.base.tups b xs e
    rw [na b (nn b _ this)]; exact this
  · have := I.base.frzs b ob xs e
    rw [na b (nn b _ this)]; exact this
  · obtain ⟨m, q⟩ := I.base.tbls b ps e
    exact ⟨m, by rw [na b (nn b _ q)]; exact q⟩
  · rw [na _ (Ne.symm fa.2.1)]; exact I.free
  · rw [na _ (fa.2.2.2.2.1 x c e)]; exact I.freeC x c e
  · obtain ⟨e1, e2, e3, e4, e5⟩ := I.pin p hp
    exact ⟨e1, by rw [na _ (fa.2.2.2.2.2 p hp)]; exact e2, e3, e4, e5⟩
  · by_cases hb : b = a
    · subst hb
      rw [upd_same] at e
      cases e
      exact new
    · rw [na b hb] at e
      exact (I.hok b u e).stay (fun c v _ q => q) (fun c q => by rw [na c (nn c _ q)]; exact q) fun c xs q => by rw [na c (nn c _ q)]; exact q
theorem sortedI {l f : Addr} {vs : List Value} {kz : List PyData} {fo : Obj} {E : Value → Shared → Prop} {Q : Value → Shared → Prop} (G : List V → Hp → Prop) (I : Inv X pins σ H s) (hl : s.heap.IsList l vs.toArray) (hL : vs.length ≤ sizeLine)
    (hf : s.heap.get? f = some fo) (hfn : H f = none) (hfl : f ≠ X.env.locals) (hfs : f ∉ X.fs) (hfc : ∀ v, fo.data ≠ .cell v)
    (hlen : kz.length = vs.length) (hal : AllAlike kz) (hsk : Sortable kz) (hu : ∀ d, d ∈ kz → X.A.units + 2 + d.depth < cLine) (G0 : G [] H)
    (turn : ∀ (v : Value) (pins' : List (Addr × Obj)) (s' : Shared) (H' : Hp) (kvs : List V), vs[kvs.length]? = some v → Inv X pins' σ H' s' → s'.heap.get? f = some fo → H' f = none → G kvs H' →
      wpAny (model X.prog X.w) X.A.in1.in1 (PySem.call (.ref f) [v]) (EP X pins' σ fun kv H'' => G (kvs ++ [kv]) H'') (fun _ _ => False) s')
    (reads : ∀ (pins' : List (Addr × Obj)) (s' : Shared) (H' : Hp) (kvs : List V) (us : List Value), Inv X pins' σ H' s' → G kvs H' → kvs.length = vs.length → Vals kvs us → EachIs (fun u d => ∃ as, Reads s'.heap u d as) us kz)
    (h : ∀ s' H' kvs D out c, Inv X pins σ H' s' → G kvs H' → kvs.length = vs.length → FpOk X pins H' D → X.s_0.heap.objs.size ≤ D → s'.heap.get? D = some (seqObj "list" (List.toArray out) c) → KeyedOut false kz vs out → Q (.ref D) s') :
    wpAny (model X.prog X.w) X.A (PySem.call (.builtin "sorted") [.ref l] [(Str.ofString "key", .ref f)]) Q E s := by
  have hsz : s.heap.objs.size ≤ s.heap.objs.size + 1 := Nat.le_succ _
  have hHa : H (s.heap.objs.size + 1) = none := I.hok.fresh hsz
  have fa : FpOk X pins H (s.heap.objs.size + 1) := I.fpOk hsz hHa
  have hfa : f ≠ s.heap.objs.size + 1 := Nat.ne_of_lt (Nat.lt_succ_of_lt (Heap.lt_size hf))
  refine sorted_of_sort hl hL (ksk_s1 _ _) (fun _ => ksk_l1 _ _) fun E' => ?_
  rw [ksk_t1]
  have ho := copyHeap_at s.heap vs
  generalize ha : s.heap.objs.size + 1 = a at *
  obtain ⟨e1, ho1⟩ : ∃ e1, ((copyHeap s.heap vs).update a (Obj.mapSeq fun _ => (#[] : Array Value))).get? a = some (seqObj "list" #[] e1) := ⟨_, get?_update_seq ho fun _ => #[]⟩
  have hkS : (((copyHeap s.heap vs).update a (Obj.mapSeq fun _ => (#[] : Array Value))).push (seqObj "tuple" vs.toArray 0)).objs.size = (copyHeap s.heap vs).objs.size + 1 := by rw [size_push', Heap.size_update]
  have hac : a < (copyHeap s.heap vs).objs.size := Heap.lt_size ho
  unfold ksk_tree
  refine wpAny_bind (listItems_at ho rfl ?_)
  refine wpAny_bind (listUpdate_at ho rfl ?_ (by rw [List.size_toArray]; exact hL) (Nat.zero_le _))
  refine wpAny_bind (seqEpoch_at ho1 rfl ?_)
  refine wpAny_bind (wpAny_newTuple ?_ (by show vs.length ≤ _; exact hL))
  refine wpAny_bind (wpAny_newList ?_ (Nat.zero_le _))
  refine wpAny_holding ?_
  have kp : ∀ b o, s.heap.get? b = some o → ((((copyHeap s.heap vs).update a (Obj.mapSeq fun _ => (#[] : Array Value))).push (seqObj "tuple" vs.toArray 0)).push (seqObj "list" #[] 0)).get? b = some o := fun b o e => by
    have hb : b ≠ a := by rw [← ha]; exact Nat.ne_of_lt (Nat.lt_succ_of_lt (Heap.lt_size e))
    exact Heap.get?_push_of_some _ (Heap.get?_push_of_some _ (((Heap.SameBut.update (copyHeap s.heap vs) a (Obj.mapSeq fun _ => (#[] : Array Value))).2 b hb).trans (copyHeap_old e)))
  have I1 : Inv X pins σ H { s with heap := (((copyHeap s.heap vs).update a (Obj.mapSeq fun _ => (#[] : Array Value))).push (seqObj "tuple" vs.toArray 0)).push (seqObj "list" #[] 0) } := I.kept (t' := s.toks) kp
  have hks0 : s.heap.objs.size ≤ (((copyHeap s.heap vs).update a (Obj.mapSeq fun _ => (#[] : Array Value))).push (seqObj "tuple" vs.toArray 0)).objs.size := by rw [hkS]; omega
  refine keyI_rest (kz := kz) (fo := fo) (s := { s with heap := (((copyHeap s.heap vs).update a (Obj.mapSeq fun _ => (#[] : Array Value))).push (seqObj "tuple" vs.toArray 0)).push (seqObj "list" #[] 0) }) (kS := (((copyHeap s.heap vs).update a (Obj.mapSeq fun _ => (#[] : Array Value))).push (seqObj "tuple" vs.toArray 0)).objs.size)
    G I1 (Heap.get?_push_size _ rfl) (Heap.get?_push_of_some _ (Heap.get?_push_of_some _ ho1)) (Nat.ne_of_gt (Nat.lt_of_lt_of_le hac (by rw [hkS]; exact Nat.le_succ _))) fa (I.fpOk hks0 (I.hok.fresh hks0)) (kp _ _ hf) hfn hfl hfs hfc hfa (Nat.ne_of_lt (Nat.lt_of_lt_of_le (Heap.lt_size hf) hks0)) hlen hL hal hsk hu G0 turn reads
    fun s' H' kvs out c I' g hk hHa' hD ko => ⟨rfl, h s' H' kvs a out c I' g hk (fpOk_of fa hHa' fun p hp => fa.2.2.2.2.2 p (List.mem_append_right _ hp)) (by have := I.sz; omega) hD ko⟩
end
end DL

set_option Elab.async false
set_option linter.all false
set_option maxRecDepth 100000
set_option maxHeartbeats 4000000
/-! DL28: sorted(xs, key=lambda x: ..) in this layer. -/
namespace DL
open PySem PySem.Spec PyProof.Rows L2 LamX PySem.W
/-- the keys, one behind the other -/
def keysI (mk : ME) (i : Nat) (env : En) : List D → List D → Sto → Res (List D)
  | [], acc, S => .ok acc S
  | d :: ds, acc, S => (mk (env.set i (some d)) S).bindS fun k S => keysI mk i env ds (acc ++ [k]) S
def byKeys (xs ks : List D) : List D := ((xs.zip ks).mergeSort fun a b => dle a.2 b.2).map (·.1)
def eSortKey (m : ME) (i : Nat) (mk : ME) : ME := fun env S => (m env S).bind fun d S => match sortOf S d with
  | some xs => (keysI mk i env xs [] S).bindS fun ks S => if sortOk ks = true ∧ xs.length ≤ 1000000 then .ok (.loc S.length) (S ++ [.lst (byKeys xs ks)]) else .stuck
  | none => .stuck
theorem keysI_len {mk : ME} {i : Nat} {env : En} : ∀ {ds acc ks : List D} {S Sn : Sto}, keysI mk i env ds acc S = .ok ks Sn → ks.length = acc.length + ds.length
  | [], acc, ks, S, Sn, h => by unfold keysI at h; cases h; simp
  | d :: ds, acc, ks, S, Sn, h => by
    unfold keysI at h
    cases hm : mk (env.set i (some d)) S with
    | ok k S1 => rw [hm] at h; have := keysI_len h; simp at this ⊢; omega
    | exc e S1 => rw [hm] at h; cases h
    | stuck => rw [hm] at h; cases h
section
variable {X : Cx} {W : WX} {e body : Expr} {p kpos lpos pos : Pos} {m mk : ME} {params : Arguments} {scope : Scope} {i k : Nat} {x : Str} {pq : Str × Option Str}
theorem reads_of {pins : List (Addr × Obj)} {s : Shared} {σ : L2.St} {H : Hp} {μ : Mu} (I : L2.Inv X pins σ H s) : ∀ {ds : List D} {vs : List V} {us : List Value}, (∀ d ∈ ds, dok 60 d = true) → RepAll X.K X.mg μ H ds vs → Vals vs us → PySem.W.EachIs (fun u d => ∃ as, Reads s.heap u d as) us (ds.map pdF)
  | [], vs, us, _, ra, r => by
    unfold RepAll at ra; subst ra; cases r; exact .nil
  | d :: ds, vs, us, h, ra, r => by
    unfold RepAll at ra
    obtain ⟨v, q, rfl, h1, h2⟩ := ra
    cases r with
    | cons r1 r2 => exact .cons (Dp.reads I _ _ _ (dp_of 60 d v (h d List.mem_cons_self) h1.w) r1) (reads_of I (fun x hx => h x (List.mem_cons_of_mem _ hx)) h2 r2)
theorem each_zip : ∀ {ds ks : List D} {vs : List V} {us : List Value}, ds.length = vs.length → ks.length = vs.length → Vals vs us → PySem.W.EachIs (fun u (b : (D × V) × D) => L2.RelV b.1.2 u) us ((ds.zip vs).zip ks)
  | [], [], [], _, _, _, r => by cases r; exact .nil
  | d :: ds, k :: ks, v :: vs, _, h, h2, r => by
    cases r with
    | cons h3 h4 =>
      rw [List.zip_cons_cons, List.zip_cons_cons]
      exact .cons h3 (each_zip (by simpa using h) (by simpa using h2) h4)
  | [], _, _ :: _, _, h, _, _ => by simp at h
  | _ :: _, _, [], _, h, _, _ => by simp at h
  | _, [], _ :: _, _, _, h, _ => by simp at h
  | _, _ :: _, [], _, _, h, _ => by simp at h
theorem each_vals2 : ∀ {us : List Value} {bs : List ((D × V) × D)}, PySem.W.EachIs (fun u (b : (D × V) × D) => L2.RelV b.1.2 u) us bs → Vals (bs.map (·.1.2)) us
  | _, _, .nil => .nil
  | _, _, .cons h t => .cons h (each_vals2 t)
theorem nin_code {K : PySem.W.Frag} {mg : Str → Option Value} {μ : Mu} {H : Hp} {S : Sto} (rs : RelS K mg μ H S) {c a : Addr} {q : Str} (e : H a = some (CodeO c q)) : a ∉ μ := fun z => by
  rcases z with z | z
  · obtain ⟨l, hl, e2⟩ := List.getElem_of_mem z
    exact rs.ncode (l := l) (by rw [List.getElem?_eq_getElem hl, e2]) e
  · obtain ⟨u, h1, h2⟩ := rs.hid a z
    rw [e] at h1
    cases h1
    exact h2.nc c q rfl
theorem sE_sortKey (hg : Gl X "sorted") (hm : X.mg "sorted" = none) (lh : LamHere X pq) (hr : Room (k + 3) X.A) (hu : X.A.units + 65 < cLine) (L : LamS1 X.env.scope scope x) (nd : X.N.Nodup) (hi : X.N[i]? = some x) (ha : PE X e (tE X W m))
    (hbody : ∀ (A : Around) (outer : List Env) (s : Shared) (H : Hp) (f c' : Addr), Room k (lamCx X A outer s H (fun _ _ _ => False) scope f c').A → PE (lamCx X A outer s H (fun _ _ _ => False) scope f c') body (tE (lamCx X A outer s H (fun _ _ _ => False) scope f c') W0 mk))
    (hdef : defaultsOf params X.env = ([], []) := by rfl)
    (hbind : ∀ (q : Str) (cl : List (Str × Addr)) (pm cv ctv u : Value), bindArgs (PySem.W.kla_fn "<lambda>" q params body scope cl pm cv ctv) ⟨[u], []⟩ = pure [(x, u)] := by intros; rfl)
    (he : backTo pos (starEach [e] X.env) = (false, eval e X.env) :: backTo pos (starEach [] X.env) := by rfl) (hpl : (backTo pos (starEach [e] X.env)).any (·.1) = false := by rfl) (hs : starEach [e] X.env = (false, eval e X.env) :: starEach [] X.env := by rfl)
    (hall : (backToKw pos (keywordEach [⟨some (Str.ofString "key"), .Lambda params body scope lpos, kpos⟩] X.env)).all (·.1.isSome) = true := by rfl) (hnone : (backToKw pos (keywordEach [⟨some (Str.ofString "key"), .Lambda params body scope lpos, kpos⟩] X.env)).any (·.1.isNone) = false := by rfl) :
    PE X (.Call (.Name "sorted" p) [e] [⟨some (Str.ofString "key"), .Lambda params body scope lpos, kpos⟩] pos) (tE X W (eSortKey m i mk)) := by
  refine ⟨fun pins s σ H Q I h => ?_⟩
  obtain ⟨env, S, μ, rl, o⟩ := h
  refine wpAny_Call_Name_kw (ld_blt I hg hm (u := .builtin "sorted") (by rfl) ?_)
  refine PyProof.Rows.callWith_kw (thn ((pa_cons ha pa_nil hs).run pos pins s σ H (fun vs H1 => ∃ v, vs = [v] ∧ ∃ μ1 S1 d, Step μ H μ1 H1 ∧ RelS X.K X.mg μ1 H1 S1 ∧ Rep X.K X.mg μ1 H1 d v ∧ Out X.K X.mg W σ μ1 H1 (fun μ H a b => Rep X.K X.mg μ H a b) Q (match sortOf S1 d with
      | some xs => (keysI mk i env xs [] S1).bindS fun ks S => if sortOk ks = true ∧ xs.length ≤ 1000000 then .ok (.loc S.length) (S ++ [.lst (byKeys xs ks)]) else .stuck
      | none => .stuck)) I ⟨env, S, μ, rl, (Out.bind o).mono fun v H1 q => ⟨v, rfl, q⟩⟩) fun us s1 ⟨vs, H1, I1, r1, v, ev, μ1, S1, d, st1, rs1, rd, o1⟩ => ?_) he hpl hall hnone
  subst ev
  cases r1 with
  | cons rv rn =>
  cases rn
  cases hso : sortOf S1 d with
  | none => rw [hso] at o1; exact o1.elim
  | some xs =>
  rw [hso] at o1
  simp only at o1
  obtain ⟨a, itv, rfl, hsq, rxs⟩ := sortOf_ok rs1 rd hso
  cases hk : keysI mk i env xs [] S1 with
  | exc _ _ => rw [hk] at o1; exact o1.elim
  | stuck => rw [hk] at o1; exact o1.elim
  | ok ks Sn =>
  rw [hk] at o1
  simp only [Res.bindS] at o1
  split at o1
  case isFalse => exact o1.elim
  rename_i hok
  have hxl := rxs.length
  have hkl : ks.length = xs.length := by simpa using keysI_len hk
  obtain ⟨g1, g2, g3⟩ := sort_alike hok.1
  refine wpAny_evalAll_cons (wpAny_bind (lam_make2 (T := tbs X.K) I1 lh.tb lh.code lh.mem lh.uniq rs1.tab hdef (L.has I1.ok) fun f c' pm ctv H2 s2 I2 eN T2 hf hfn hfr hco => wpAny_bind (wpAny_standAt (wpAny_pure ?_))))
  refine wpAny_evalAll_nil ?_
  obtain ⟨st2, rs2⟩ := step_extn rs1 eN T2
  have rxs2 := RepAll.step st2 _ _ rxs
  have hsq2 : SqL X.K H2 a itv := by
    rcases hsq with hq | hq
    · rcases hq with hq | ⟨ob, hq⟩
      · exact .inl (.inl (eN _ _ hq fun ps z => by cases z))
      · exact .inl (.inr ⟨ob, eN _ _ hq fun ps z => by cases z⟩)
    · exact .inr hq
  obtain ⟨its, rvs, hl, hz⟩ := I2.list hsq2
  have hua : its.length = xs.length := by rw [hxl, rvs.length]
  rw [Vals.ref1 (.cons rv .nil)]
  have hfL : f ≠ X.env.locals := fun z => by
    obtain ⟨m', ⟨ob, es, ep, ho, hd, _⟩, _⟩ := I2.loc
    rw [← z, hf] at ho
    cases ho
    cases hd
  have hfs : f ∉ X.fs := fun z => hfr (by
    have z : f ∈ frs X.outer := z
    show f ∈ frs X.stack
    rcases I2.ok.stk with e | ⟨e, _⟩
    · rw [e]; exact z
    · rw [e]
      unfold frs at z ⊢
      rw [List.filterMap_cons]
      split
      · exact z
      · exact List.mem_cons_of_mem _ z)
  have hc2 : H2 c' = some (CodeO c' (X.env.qual ++ "<lambda>")) := hco
  have hcn : c' ∉ μ1 := nin_code rs2 hc2
  have hr2 : Room (k + 1) X.A.in1.in1 := Room.in1 (Room.in1 hr)
  have hsz : its.length ≤ sizeLine := by rw [hua]; exact line_big hok.2
  show wpAny (model X.prog X.w) X.A (PySem.call (.builtin "sorted") [.ref a] [(Str.ofString "key", .ref f)]) _ _ s2
  refine sortedI (kz := ks.map pdF) (vs := its) (fo := PySem.W.kla_obj "<lambda>" (X.env.qual ++ "<lambda>") params body scope (cloFrom X.env.cells scope.names []) pm c' ctv)
    (fun kvs H' => ∃ μ' S' ks', Step μ1 H2 μ' H' ∧ RelS X.K X.mg μ' H' S' ∧ RepAll X.K X.mg μ' H' ks' kvs ∧ keysI mk i env (xs.drop kvs.length) ks' S' = .ok ks Sn)
    I2 hl.isList hsz hf hfn hfL hfs (fun v z => by cases z) (by rw [List.length_map, hkl, hua]) g1 g2 (fun d hd => ?_) ⟨μ1, S1, [], .refl, rs2, .nil, hk⟩ ?turn ?reads ?fin
  · obtain ⟨b, hb, rfl⟩ := List.mem_map.mp hd
    have := (dok_lay 60 b (g3 b hb)).2
    omega
  case turn =>
    rintro v pins' s' H' kvs hv I' hf' hfn' ⟨μ', S', ks', st', rs', ra', hks⟩
    have hj : kvs.length < its.length := (List.getElem?_eq_some_iff.mp hv).1
    have hd : xs[kvs.length]? = some (xs[kvs.length]'(by omega)) := List.getElem?_eq_getElem (by omega)
    obtain ⟨vv, hvv, rvv⟩ := rxs2.get hd
    obtain ⟨u, hu1, hu2⟩ := rvs.get hvv
    rw [hv] at hu1
    cases hu1
    generalize xs[kvs.length]'(by omega) = dd at hd rvv
    have hdr : xs.drop kvs.length = dd :: xs.drop (kvs.length + 1) := by
      rw [List.drop_eq_getElem_cons (by omega)]
      rw [List.getElem?_eq_getElem (by omega)] at hd
      cases hd
      rfl
    rw [hdr] at hks
    unfold keysI at hks
    cases hm : mk (env.set i (some dd)) S' with
    | exc _ _ => rw [hm] at hks; cases hks
    | stuck => rw [hm] at hks; cases hks
    | ok kk S2 =>
      rw [hm] at hks
      simp only [Res.bindS] at hks
      have hco' : H' c' = some (CodeO c' (X.env.qual ++ "<lambda>")) := st'.keep c' _ hc2 hcn (fun ps z => codeO_ne ps z)
      refine lam1_call (k := k) (tb := tE X W0 mk) I' I'.env0.in1.in1 L nd hi hf' hco' (hbind _ _ _ _ _ _) hr2 hu2 (fun A outer s H hr3 => ?_) ?_
      · exact hbody A outer s H f c' hr3
      · refine ⟨env.set i (some dd), S', μ', ⟨RelE.set (((rl.env.step st1).step st2).step st') (Rep.step st' _ _ rvv), rs'⟩, ?_⟩
        rw [hm]
        exact fun μ3 H3 b st3 rs3 rb => ⟨μ3, S2, ks' ++ [kk], st'.trans st3, rs3, (RepAll.step st3 _ _ ra').append (.cons rb .nil), by rw [List.length_append]; exact hks⟩
  case reads =>
    rintro pins' s' H' kvs us I' ⟨μ', S', ks', st', rs', ra', hks⟩ hkv rus
    rw [List.drop_eq_nil_of_le (by omega)] at hks
    unfold keysI at hks
    cases hks
    exact reads_of I' g3 ra' rus
  case fin =>
    rintro s' H' kvs Da out c I' ⟨μ', S', ks', st', rs', ra', hks⟩ hkv fD hz0 hD ko
    rw [List.drop_eq_nil_of_le (by omega)] at hks
    unfold keysI at hks
    cases hks
    have hb : ((xs.zip itv).zip ks).map (fun b => pdF b.2) = ks.map pdF := by
      have h1 : ((xs.zip itv).zip ks).map (·.2) = ks := List.map_snd_zip (by rw [List.length_zip, hkl, hxl]; omega)
      conv => rhs; rw [← h1, List.map_map]
      rfl
    rw [← hb] at ko
    have hE := keyedOut_each (R := fun u (b : (D × V) × D) => L2.RelV b.1.2 u) (fun b => pdF b.2) ko (each_zip hxl (by rw [hkl, hxl]) rvs)
    have rv' := each_vals2 hE
    generalize hbs : ((xs.zip itv).zip ks).mergeSort (PySem.W.dataLe false fun b => pdF b.2) = bs at hE rv'
    have hmem : ∀ b ∈ bs, b ∈ (xs.zip itv).zip ks := fun b hb => by rw [← hbs] at hb; exact List.mem_mergeSort.mp hb
    have rr : RepAll X.K X.mg μ' H' (bs.map (·.1.1)) (bs.map (·.1.2)) := by
      have := repAll_of (K := X.K) (mg := X.mg) (μ := μ') (H := H') (ps := bs.map (·.1)) (fun p hp => by
        obtain ⟨b, hb, rfl⟩ := List.mem_map.mp hp
        exact Rep.step st' _ _ (repAll_mem rxs2 _ (List.of_mem_zip (hmem b hb)).1))
      rw [List.map_map, List.map_map] at this
      exact this
    have hby : bs.map (·.1.1) = byKeys xs ks := by
      have h2 : ((xs.zip itv).zip ks).map (fun b : (D × V) × D => (b.1.1, b.2)) = xs.zip ks := by
        have : ∀ (xs : List D) (vs : List V) (ks : List D), xs.length = vs.length → ((xs.zip vs).zip ks).map (fun b : (D × V) × D => (b.1.1, b.2)) = xs.zip ks := by
          intro xs
          induction xs with
          | nil => intro vs ks _; simp
          | cons x xs ih =>
            intro vs ks h
            cases vs with
            | nil => simp at h
            | cons v vs =>
              cases ks with
              | nil => simp
              | cons k ks => simp [ih vs ks (by simpa using h)]
        exact this xs itv ks hxl
      unfold byKeys
      have h3 : (((xs.zip itv).zip ks).mergeSort (PySem.W.dataLe false fun b : (D × V) × D => pdF b.2)).map (fun b : (D × V) × D => (b.1.1, b.2)) = (((xs.zip itv).zip ks).map (fun b : (D × V) × D => (b.1.1, b.2))).mergeSort (fun a b => dle a.2 b.2) :=
        List.map_mergeSort (fun a _ b _ => rfl)
      rw [← h2, ← h3, hbs, List.map_map]
      rfl
    have hlenb : (bs.map (·.1.2)).length ≤ sizeLine := by
      rw [List.length_map, ← hbs, List.length_mergeSort, List.length_zip, List.length_zip]
      omega
    rw [hby] at rr
    obtain ⟨q1, q2, q3⟩ := lst_new rs' fD.1 rr
    have I4 : Inv X pins σ (upd H' Da (.lst (bs.map (·.1.2)))) s' := inv_track I' fD hz0 ⟨hlenb, out, c, rv', hD⟩
    exact ⟨.ref Da, _, I4, rfl, Out.of_step (st2.trans st') o1 _ _ _ q1 q2 q3⟩
end
end DL

set_option Elab.async false
set_option linter.all false
set_option maxRecDepth 100000
set_option maxHeartbeats 4000000
/-! DL29: dicts locked while they are walked; comprehensions of two clauses. -/
namespace DL
open PySem PySem.Spec PyProof.Rows L2 LamX
section
variable {K : PySem.W.Frag} {mg : Str → Option Value} {μ μ' : Mu} {H H' : Hp} {S S' : Sto} {env : En} {σ : L2.St} {l : Nat} {t : Bool} {kvs : List (D × D)} {a : Addr} {u : HO}
theorem RelS.dict (rs : RelS K mg μ H S) (e : S[l]? = some (.dct t kvs)) : ∃ a u, μ.l[l]? = some a ∧ H a = some u ∧ Mut (some u) ∧ NF H a ∧ (∀ ps, u ≠ .tbl ps) ∧ RepO K mg μ H (.dct t kvs) a := by
  obtain ⟨a, h1, h2⟩ := rs.at_ l _ e
  cases t with
  | false =>
    obtain ⟨vs, ks, ⟨q, hk⟩, rr⟩ := id h2
    exact ⟨a, _, h1, q, trivial, .of q, fun _ z => (nomatch z), h2⟩
  | true =>
    obtain ⟨vs, ks, ⟨q, hk⟩, rr⟩ := id h2
    exact ⟨a, _, h1, q, trivial, .of q, fun _ z => (nomatch z), h2⟩
/-- locked -/
theorem lock_in (rl : Rl K mg μ H env σ S) (e : S[l]? = some (.dct t kvs)) (hμ : μ.l[l]? = some a) (ha : H a = some u) (nf : NF H a) (r : RepO K mg μ H (.dct t kvs) a) (od : Obj) : Step μ H μ (upd H a (.frz od u)) ∧ Rl K mg μ (upd H a (.frz od u)) env σ (S.set l (.fdc t kvs)) := by
  have st : Step μ H μ (upd H a (.frz od u)) := Step.write rl.sto hμ nf
  refine ⟨st, rl.env.step st, rl.sto.write hμ nf ?_⟩
  cases t with
  | false =>
    obtain ⟨vs, ks, ⟨q, hk⟩, rr⟩ := r
    rw [ha] at q
    cases q
    exact ⟨vs, ks, ⟨⟨od, upd_same⟩, hk⟩, RepAll.step st _ _ rr⟩
  | true =>
    obtain ⟨vs, ks, ⟨q, hk⟩, rr⟩ := r
    rw [ha] at q
    cases q
    exact ⟨vs, ks, ⟨⟨od, upd_same⟩, hk⟩, RepAll.step st _ _ rr⟩
/-- let go -/
theorem lock_out {od : Obj} (rs : RelS K mg μ H S) (hμ : μ.l[l]? = some a) (ha : H a = some u) (nf : NF H a) (nt : ∀ ps, u ≠ .tbl ps) (r : RepO K mg μ H (.dct t kvs) a) (st : Step μ (upd H a (.frz od u)) μ' H') (rs' : RelS K mg μ' H' S') :
    H' a = some (.frz od u) ∧ StpW μ' H' μ' (upd H' a u) ∧ Step μ H μ' (upd H' a u) ∧ RelS K mg μ' (upd H' a u) (S'.set l (.dct t kvs)) := by
  have hf : H' a = some (.frz od u) := st.kf a od u upd_same
  have hμ' : μ'.l[l]? = some a := st.get hμ
  have ha' : a ∈ μ'.l := List.mem_of_getElem? hμ'
  have nh : a ∉ μ'.h := rs'.dis a ha'
  have w : StpW μ' H' μ' (upd H' a u) := ⟨⟨[], by simp⟩, fun _ h => .inl h, fun b o e n _ => by
    have : b ≠ a := fun z => n (z ▸ .inl ha')
    rw [upd_ne this]; exact e⟩
  have ne : ∀ b o, H b = some o → b ≠ a → upd H a (.frz od u) b = some o := fun b o e n => by rw [upd_ne n]; exact e
  have whole : Step μ H μ' (upd H' a u) := by
    refine ⟨⟨⟨st.pre, fun b hb => ?_, fun b o e n nt => ?_⟩, fun b o v e => ?_⟩, st.hid, fun b v hb e nt => ?_⟩
    · rcases st.new b hb with z | z
      · exact .inl z
      · by_cases hba : b = a
        · subst hba; exact .inl (.inl (List.mem_of_getElem? hμ))
        · exact .inr fun o q => z o (ne b o q hba)
    · have hba : b ≠ a := fun z => n (z ▸ .inl (List.mem_of_getElem? hμ))
      rw [upd_ne hba]
      exact st.keep b o (ne b o e hba) n nt
    · have hba : b ≠ a := nf.ne e
      rw [upd_ne hba]
      exact st.kf b o v (ne b _ e hba)
    · have hba : b ≠ a := fun z => nh (by rw [st.hid]; subst z; exact hb)
      rw [upd_ne hba]
      exact st.hk b v hb (ne b v e hba) nt
  refine ⟨hf, w, whole, by simp [rs'.len], rs'.nd, rs'.dis, fun b hb => ?_, fun j o e => ?_, tabs_upd rs'.tab (fun ps z => by rw [hf] at z; cases z) fun c q z => by rw [hf] at z; unfold LamX.CodeO at z; cases z⟩
  · obtain ⟨v, e, tt⟩ := rs'.hid b hb
    have hba : b ≠ a := fun z => by subst z; exact nh hb
    exact ⟨v, by rw [upd_ne hba]; exact e, tt⟩
  · by_cases hj : j = l
    · subst hj
      have hl : j < S'.length := by
        have := (List.getElem?_eq_some_iff.mp e).1; simpa using this
      rw [List.getElem?_set_self hl] at e
      cases e
      refine ⟨a, hμ', ?_⟩
      cases t with
      | false =>
        obtain ⟨vs, ks, ⟨q, hk⟩, rr⟩ := r
        rw [ha] at q
        cases q
        exact ⟨vs, ks, ⟨upd_same, hk⟩, RepAll.step whole _ _ rr⟩
      | true =>
        obtain ⟨vs, ks, ⟨q, hk⟩, rr⟩ := r
        rw [ha] at q
        cases q
        exact ⟨vs, ks, ⟨upd_same, hk⟩, RepAll.step whole _ _ rr⟩
    · rw [List.getElem?_set_ne (Ne.symm hj)] at e
      obtain ⟨b, h1, h2⟩ := rs'.at_ j o e
      have na : b ≠ a := fun z => by
        subst z
        have e1 := List.getElem?_eq_some_iff.mp h1
        have e2 := List.getElem?_eq_some_iff.mp hμ'
        exact hj ((List.getElem_inj rs'.nd).mp (e1.2.trans e2.2.symm))
      exact ⟨b, h1, h2.stepW w fun w q => by rw [upd_ne na]; exact q⟩
end
/-- the dict that ml tells is locked while mb runs -/
def eLock (ml mb : ME) : ME := fun env S => match ml env S with
  | .ok (.loc l) _ => match S[l]? with
    | some (.dct t kvs) => match mb env (S.set l (.fdc t kvs)) with
      | .ok d S' => .ok d (S'.set l (.dct t kvs))
      | _ => .stuck
    | _ => .stuck
  | _ => .stuck
def sLock (ml : ME) (mb : MS) : MS := fun env S => match ml env S with
  | .ok (.loc l) _ => match S[l]? with
    | some (.dct t kvs) => match mb env (S.set l (.fdc t kvs)) with
      | .next e S' => .next e (S'.set l (.dct t kvs))
      | .brk e S' => .brk e (S'.set l (.dct t kvs))
      | .cont e S' => .cont e (S'.set l (.dct t kvs))
      | .ret d S' => .ret d (S'.set l (.dct t kvs))
      | _ => .stuck
    | _ => .stuck
  | _ => .stuck
section
variable {X : Cx} {W : WX} {e : Expr} {st : Stmt} {ml mb : ME} {ms : MS}
theorem sE_lock (h : PE X e (tE X W mb)) : PE X e (tE X W (eLock ml mb)) := pe_to (pe_lock h) fun σ H Q ⟨env, S, μ, rl, o⟩ => by
  unfold eLock at o
  split at o
  · rename_i l S1 _
    split at o
    · rename_i t kvs es
      obtain ⟨a, u, hμ, ha, mu, nf, nt, r⟩ := rl.sto.dict es
      refine ⟨a, u, ha, mu, fun od => ?_⟩
      obtain ⟨st1, rl1⟩ := lock_in rl es hμ ha nf r od
      refine ⟨env, _, μ, rl1, ?_⟩
      cases hm : mb env (S.set l (.fdc t kvs)) with
      | ok d S' =>
        rw [hm] at o
        intro μ' H' b st' rs' rb
        obtain ⟨h1, h2, h3, h4⟩ := lock_out rl.sto hμ ha nf nt r st' rs'
        exact ⟨h1, o μ' _ b h3 h4 (Rep.stpW h2 _ _ rb)⟩
      | exc _ _ => rw [hm] at o; exact o.elim
      | stuck => rw [hm] at o; exact o.elim
    · exact o.elim
  · exact o.elim
theorem sS_lock (h : PS X st (tS X W ms)) : PS X st (tS X W (sLock ml ms)) := ps_to (ps_lock h) fun D σ H ⟨env, S, μ, rl, o⟩ => by
  unfold sLock at o
  split at o
  · rename_i l S1 _
    split at o
    · rename_i t kvs es
      obtain ⟨a, u, hμ, ha, mu, nf, nt, r⟩ := rl.sto.dict es
      refine ⟨a, u, ha, mu, fun od => ?_⟩
      obtain ⟨st1, rl1⟩ := lock_in rl es hμ ha nf r od
      refine ⟨env, _, μ, rl1, ?_⟩
      cases hm : ms env (S.set l (.fdc t kvs)) with
      | next e S' =>
        rw [hm] at o
        intro μ' H' σ' st' re' rs'
        obtain ⟨h1, h2, h3, h4⟩ := lock_out rl.sto hμ ha nf nt r st' rs'
        exact ⟨h1, o μ' _ σ' h3 (re'.stpW h2) h4⟩
      | brk e S' =>
        rw [hm] at o
        intro μ' H' σ' st' re' rs'
        obtain ⟨h1, h2, h3, h4⟩ := lock_out rl.sto hμ ha nf nt r st' rs'
        exact ⟨h1, o μ' _ σ' h3 (re'.stpW h2) h4⟩
      | cont e S' =>
        rw [hm] at o
        intro μ' H' σ' st' re' rs'
        obtain ⟨h1, h2, h3, h4⟩ := lock_out rl.sto hμ ha nf nt r st' rs'
        exact ⟨h1, o μ' _ σ' h3 (re'.stpW h2) h4⟩
      | ret d S' =>
        rw [hm] at o
        intro μ' H' v st' rs' rb
        obtain ⟨h1, h2, h3, h4⟩ := lock_out rl.sto hμ ha nf nt r st' rs'
        exact ⟨h1, o μ' _ v h3 h4 (Rep.stpW h2 _ _ rb)⟩
      | exc _ _ _ => rw [hm] at o; exact o.elim
      | stuck => rw [hm] at o; exact o.elim
    · exact o.elim
  · exact o.elim
end
end DL

set_option Elab.async false
set_option linter.all false
set_option maxRecDepth 100000
set_option maxHeartbeats 4000000
/-! DL30: comprehensions of two clauses. -/
namespace DL
open PySem PySem.Spec PyProof.Rows L2
theorem Res.bindS_assoc {α β γ : Type} (r : Res α) (f : α → Sto → Res β) (g : β → Sto → Res γ) : (r.bindS f).bindS g = r.bindS fun a S => (f a S).bindS g := by
  cases r <;> rfl
/-- a walk, turn by turn -/
def walkI (T : D → List D → Sto → Res (List D)) : List D → List D → Sto → Res (List D)
  | [], acc, S => .ok acc S
  | d :: ds, acc, S => (T d acc S).bindS fun acc S => walkI T ds acc S
def walkL (T : D → List D → Sto → Res (List D)) (l : Nat) : Nat → Nat → List D → Sto → Res (List D)
  | 0, _, _, _ => .stuck
  | n + 1, i, acc, S => match S[l]? with
    | some (.lst xs) => match xs[i]? with
      | none => .ok acc S
      | some d => (T d acc S).bindS fun acc S => walkL T l n (i + 1) acc S
    | _ => .stuck
def walkE (T : D → List D → Sto → Res (List D)) (l : Nat) : Nat → Nat → List D → Sto → Res (List D)
  | 0, _, _, _ => .stuck
  | n + 1, i, acc, S => match S[l]? with
    | some (.lst xs) => match xs[i]? with
      | none => .ok acc S
      | some d => (T (.tup [.int (i : Nat), d]) acc S).bindS fun acc S => walkE T l n (i + 1) acc S
    | _ => .stuck
def walkR (T : D → List D → Sto → Res (List D)) (it : ItD) (acc : List D) (S : Sto) : Res (List D) := match it with
  | .items ds => walkI T ds acc S
  | .live l => walkL T l (lenL S l + 1) 0 acc S
  | .liveE l => walkE T l (lenL S l + 1) 0 acc S
section
variable {X : Cx} {J : It} {it : ItD} {T : D → List D → Sto → Res (List D)} {G : V → Hp → (Hp → Prop) → Prop} {N : Hp → Prop} {W : WX} {σ : L2.St} {μ0 μ1 : Mu} {H0 H1 : Hp} {p : Addr} {Q : V → Hp → Prop}
theorem walk_ok {S1 : Sto} {acc1 : List D} {us1 : List V} {f : List D → Sto → Res (List D)} (rd : WalkOk X.K X.mg μ1 H1 it J) (hp : p ∈ μ1.h) (hp1 : H1 p = some (.lst us1)) (rs1 : RelS X.K X.mg μ1 H1 S1) (ra1 : RepAll X.K X.mg μ1 H1 acc1 us1)
    (o : Out X.K X.mg W σ μ0 H0 (RL X.K X.mg) Q ((walkR T it acc1 S1).bindS f))
    (hN : ∀ μ H S acc us, StP p μ1 H1 μ H → RelS X.K X.mg μ H S → H p = some (.lst us) → RepAll X.K X.mg μ H acc us → Out X.K X.mg W σ μ0 H0 (RL X.K X.mg) Q (f acc S) → N H)
    (hG : ∀ (μ2 : Mu) (H2 : Hp) (S2 : Sto) (d : D) (x : V) (acc : List D) (us : List V) (N2 : Hp → Prop) (f2 : List D → Sto → Res (List D)), StP p μ1 H1 μ2 H2 → RelS X.K X.mg μ2 H2 S2 → H2 p = some (.lst us) → RepAll X.K X.mg μ2 H2 acc us → Rep X.K X.mg μ2 H2 d x → Out X.K X.mg W σ μ0 H0 (RL X.K X.mg) Q ((T d acc S2).bindS f2) →
      (∀ μ3 H3 S3 acc' us', StP p μ2 H2 μ3 H3 → RelS X.K X.mg μ3 H3 S3 → H3 p = some (.lst us') → RepAll X.K X.mg μ3 H3 acc' us' → Out X.K X.mg W σ μ0 H0 (RL X.K X.mg) Q (f2 acc' S3) → N2 H3) → G x H2 N2) :
    ∃ Wk : Nat → Nat → Hp → Prop, (∃ m, Wk 0 m H1) ∧ ∀ i m H, Wk i m H → (J.stop i H ∧ N H) ∨ (J.go i H ∧ ∃ Nx : Hp → Prop, (∀ H', Nx H' → ∃ m', m' < m ∧ Wk (i + 1) m' H') ∧ ∀ x H', J.yld i H x H' → G x H' Nx) := by
  have st0 : StP p μ1 H1 μ1 H1 := .of .refl
  have npm : ∀ {μ2 : Mu} {H2 : Hp}, StP p μ1 H1 μ2 H2 → p ∈ μ2.h := fun sp => by rw [sp.hid]; exact hp
  cases it with
  | items ds =>
    have rd : WalkD X.K X.mg μ1 H1 ds J := rd
    refine ⟨fun i n H => n + i = ds.length ∧ ∃ μ S acc us, StP p μ1 H1 μ H ∧ RelS X.K X.mg μ H S ∧ H p = some (.lst us) ∧ RepAll X.K X.mg μ H acc us ∧ Out X.K X.mg W σ μ0 H0 (RL X.K X.mg) Q ((walkI T (ds.drop i) acc S).bindS f),
      ⟨ds.length, rfl, _, S1, _, _, st0, rs1, hp1, ra1, o⟩, ?_⟩
    rintro i n H ⟨hn, μ, S, acc, us, sp, rs, hpp, ra, o⟩
    have sb : Stp μ1 H1 μ H := sp.toStp
    by_cases hi : i < ds.length
    · have ed : ds.drop i = ds[i] :: ds.drop (i + 1) := List.drop_eq_getElem_cons hi
      rw [ed] at o
      unfold walkI at o
      rw [Res.bindS_assoc] at o
      refine .inr ⟨rd.goes i μ H hi sb, fun H => ∃ μ S acc us, StP p μ1 H1 μ H ∧ RelS X.K X.mg μ H S ∧ H p = some (.lst us) ∧ RepAll X.K X.mg μ H acc us ∧ Out X.K X.mg W σ μ0 H0 (RL X.K X.mg) Q ((walkI T (ds.drop (i + 1)) acc S).bindS f), fun H' w => ⟨n - 1, by omega, by omega, w⟩, fun x H' y => ?_⟩
      obtain ⟨sm, rx⟩ := rd.yields i _ μ H S x H' (List.getElem?_eq_getElem hi) sb rs y
      have sx : Step μ H μ H' := .of_sm sm
      have spx := sp.trans (StP.of sx)
      exact hG μ H' S _ x acc us _ _ spx (rs.sm sm) (sm _ _ hpp) (RepAll.step sx _ _ ra) rx o fun μ3 H3 S3 acc' us' s3 rs3 hp3 ra3 o3 => ⟨μ3, S3, acc', us', spx.trans s3, rs3, hp3, ra3, o3⟩
    · have e : i = ds.length := by omega
      subst e
      rw [List.drop_length] at o
      exact .inl ⟨rd.stops μ H sb, hN μ H S acc us sp rs hpp ra o⟩
  | live l =>
    obtain ⟨a, ha, rfl⟩ := rd
    refine ⟨fun i n H => ∃ μ S acc us, StP p μ1 H1 μ H ∧ RelS X.K X.mg μ H S ∧ H p = some (.lst us) ∧ RepAll X.K X.mg μ H acc us ∧ Out X.K X.mg W σ μ0 H0 (RL X.K X.mg) Q ((walkL T l n i acc S).bindS f),
      ⟨_, _, S1, _, _, st0, rs1, hp1, ra1, o⟩, ?_⟩
    rintro i n H ⟨μ, S, acc, us, sp, rs, hpp, ra, o⟩
    have sb : Stp μ1 H1 μ H := sp.toStp
    cases n with
    | zero => exact o.elim
    | succ n =>
      unfold walkL at o
      cases es : S[l]? with
      | none => rw [es] at o; exact o.elim
      | some ob =>
        cases ob with
        | lst xs =>
          simp only [es] at o
          obtain ⟨a', h1, vs', h2, h3⟩ := rs.at_ _ _ es
          rw [sb.get ha] at h1; cases h1
          cases hx : xs[i]? with
          | none =>
            simp only [hx] at o
            refine .inl ⟨⟨vs', .of h2, ?_⟩, hN μ H S acc us sp rs hpp ra o⟩
            rw [← h3.length]
            exact List.getElem?_eq_none_iff.mp hx
          | some d =>
            simp only [hx] at o
            rw [Res.bindS_assoc] at o
            obtain ⟨v, hv, rv⟩ := h3.get hx
            refine .inr ⟨⟨vs', v, .of h2, hv⟩, fun H => ∃ μ S acc us, StP p μ1 H1 μ H ∧ RelS X.K X.mg μ H S ∧ H p = some (.lst us) ∧ RepAll X.K X.mg μ H acc us ∧ Out X.K X.mg W σ μ0 H0 (RL X.K X.mg) Q ((walkL T l n (i + 1) acc S).bindS f), fun H' w => ⟨n, Nat.lt_succ_self n, w⟩, fun x H' y => ?_⟩
            obtain ⟨rfl, y⟩ := y
            have q := y vs' (.of h2)
            rw [hv] at q; cases q
            exact hG μ _ S _ _ acc us _ _ sp rs hpp ra rv o fun μ3 H3 S3 acc' us' s3 rs3 hp3 ra3 o3 => ⟨μ3, S3, acc', us', sp.trans s3, rs3, hp3, ra3, o3⟩
        | _ => simp only [es] at o; exact o.elim
  | liveE l =>
    obtain ⟨a, ha, rfl⟩ := rd
    refine ⟨fun i n H => ∃ μ S acc us, StP p μ1 H1 μ H ∧ RelS X.K X.mg μ H S ∧ H p = some (.lst us) ∧ RepAll X.K X.mg μ H acc us ∧ Out X.K X.mg W σ μ0 H0 (RL X.K X.mg) Q ((walkE T l n i acc S).bindS f),
      ⟨_, _, S1, _, _, st0, rs1, hp1, ra1, o⟩, ?_⟩
    rintro i n H ⟨μ, S, acc, us, sp, rs, hpp, ra, o⟩
    have sb : Stp μ1 H1 μ H := sp.toStp
    cases n with
    | zero => exact o.elim
    | succ n =>
      unfold walkE at o
      cases es : S[l]? with
      | none => rw [es] at o; exact o.elim
      | some ob =>
        cases ob with
        | lst xs =>
          simp only [es] at o
          obtain ⟨a', h1, vs', h2, h3⟩ := rs.at_ _ _ es
          rw [sb.get ha] at h1; cases h1
          cases hx : xs[i]? with
          | none =>
            simp only [hx] at o
            refine .inl ⟨⟨vs', .of h2, ?_⟩, hN μ H S acc us sp rs hpp ra o⟩
            rw [← h3.length]
            exact List.getElem?_eq_none_iff.mp hx
          | some d =>
            simp only [hx] at o
            rw [Res.bindS_assoc] at o
            obtain ⟨v, hv, rv⟩ := h3.get hx
            refine .inr ⟨⟨vs', v, .of h2, hv⟩, fun H => ∃ μ S acc us, StP p μ1 H1 μ H ∧ RelS X.K X.mg μ H S ∧ H p = some (.lst us) ∧ RepAll X.K X.mg μ H acc us ∧ Out X.K X.mg W σ μ0 H0 (RL X.K X.mg) Q ((walkE T l n (i + 1) acc S).bindS f), fun H' w => ⟨n, Nat.lt_succ_self n, w⟩, fun x H' y => ?_⟩
            obtain ⟨Tz, z, rfl, hT, rfl, y⟩ := y
            have q := y vs' (.of h2)
            rw [hv] at q; cases q
            have sm : Sm H (upd H Tz (.tup [.int (i : Int), v])) := .upd hT
            have sx : Step μ H μ (upd H Tz (.tup [.int (i : Int), v])) := .of_sm sm
            have rx : Rep X.K X.mg μ (upd H Tz (.tup [.int (i : Int), v])) (.tup [.int (i : Nat), d]) (.ref Tz) := rep_new_tup rs hT (.cons (rep_int _) (.cons rv .nil))
            have spx := sp.trans (StP.of sx)
            exact hG μ _ S _ _ acc us _ _ spx (rs.sm sm) (sm _ _ hpp) (RepAll.step sx _ _ ra) rx o fun μ3 H3 S3 acc' us' s3 rs3 hp3 ra3 o3 => ⟨μ3, S3, acc', us', spx.trans s3, rs3, hp3, ra3, o3⟩
        | _ => simp only [es] at o; exact o.elim
end
/-- one turn of the first clause -/
def turn2 (g : MG) (tc : MT) (mi1 : MI) (g1 : MG) (tc1 : MT) (m : ME) (vs1 : List Nat) (w : En) (d : D) (acc : List D) (S : Sto) : Res (List D) := match g d w S with
  | none => .stuck
  | some p => (tc p.1 p.2).bindS fun c S2 => if c = true then (mi1 p.1 S2).bindS fun it S3 => walkR (turnC g1 tc1 m (wipeE p.1 vs1)) it acc S3 else .ok acc S2
def comp2R (mi : MI) (g : MG) (tc : MT) (mi1 : MI) (g1 : MG) (tc1 : MT) (m : ME) (vs vs1 : List Nat) : MA := fun env S => (mi env S).bind fun it S => walkR (turn2 g tc mi1 g1 tc1 m vs1 (wipeE env vs)) it [] S
def eComp2 (mi : MI) (g : MG) (tc : MT) (mi1 : MI) (g1 : MG) (tc1 : MT) (m : ME) (vs vs1 : List Nat) : ME := fun env S => (comp2R mi g tc mi1 g1 tc1 m vs vs1 env S).bind fun ds S => .ok (.lst ds) S
theorem Res.bindS_noexc {α β : Type} {r : Res α} {f : α → Sto → Res β} (h : ∀ a S e S', f a S ≠ .exc e S') : ∀ e S, r.bindS f ≠ .exc e S := fun e S => by
  cases r with
  | ok a S1 => exact h a S1 e S
  | exc _ _ => exact fun z => nomatch z
  | stuck => exact fun z => nomatch z
theorem walkI_noexc {T : D → List D → Sto → Res (List D)} : ∀ ds acc S e S', walkI T ds acc S ≠ .exc e S'
  | [], _, _, _, _ => fun z => nomatch z
  | d :: ds, acc, S, e, S' => Res.bindS_noexc (fun a S e S' => walkI_noexc ds a S e S') e S'
theorem walkL_noexc {T : D → List D → Sto → Res (List D)} {l : Nat} : ∀ n i acc S e S', walkL T l n i acc S ≠ .exc e S'
  | 0, _, _, _, _, _ => fun z => nomatch z
  | n + 1, i, acc, S, e, S' => by
    unfold walkL
    split
    · split
      · exact fun z => nomatch z
      · exact Res.bindS_noexc (fun a S e S' => walkL_noexc n _ a S e S') e S'
    · exact fun z => nomatch z
theorem walkE_noexc {T : D → List D → Sto → Res (List D)} {l : Nat} : ∀ n i acc S e S', walkE T l n i acc S ≠ .exc e S'
  | 0, _, _, _, _, _ => fun z => nomatch z
  | n + 1, i, acc, S, e, S' => by
    unfold walkE
    split
    · split
      · exact fun z => nomatch z
      · exact Res.bindS_noexc (fun a S e S' => walkE_noexc n _ a S e S') e S'
    · exact fun z => nomatch z
theorem walkR_noexc {T : D → List D → Sto → Res (List D)} {it : ItD} {acc : List D} {S : Sto} (e : _) (S' : Sto) : walkR T it acc S ≠ .exc e S' := by
  cases it with
  | items ds => exact walkI_noexc ds acc S e S'
  | live l => exact walkL_noexc _ _ acc S e S'
  | liveE l => exact walkE_noexc _ _ acc S e S'
theorem WalkOk.stp {K : PySem.W.Frag} {mg : Str → Option Value} {μ μ' : Mu} {H H' : Hp} {it : ItD} {J : It} (s : Stp μ H μ' H') (h : WalkOk K mg μ H it J) : WalkOk K mg μ' H' it J := by
  cases it with
  | items ds =>
    have h : WalkD K mg μ H ds J := h
    exact (⟨fun i μ2 H2 hi t => h.goes i μ2 H2 hi (s.trans t), fun μ2 H2 t => h.stops μ2 H2 (s.trans t), fun i d μ2 H2 S x H3 hd t rs y => h.yields i d μ2 H2 S x H3 hd (s.trans t) rs y⟩ : WalkD K mg μ' H' ds J)
  | live l =>
    obtain ⟨a, ha, e⟩ := h
    exact ⟨a, s.get ha, e⟩
  | liveE l =>
    obtain ⟨a, ha, e⟩ := h
    exact ⟨a, s.get ha, e⟩
section
variable {X : Cx} {e tg iter tg1 iter1 elt : Expr} {pos : Pos} {g g1 : MG} {m : ME} {mi mi1 : MI} {tc tc1 : MT} {vs vs1 : List Nat}
/-- what the second loop asks -/
def Loop2 (X : Cx) (g1 : MG) (tc1 : MT) (m : ME) (vs1 : List Nat) (p : Addr) (σ2 : L2.St) (J1 : It) (H4 : Hp) (N : Hp → Prop) : Prop :=
  ∃ W1 : Nat → Nat → Hp → Prop, (∃ m, W1 0 m H4) ∧ ∀ j k H, W1 j k H →
      (J1.stop j H ∧ N H) ∨ (J1.go j H ∧ ∃ Nx1 : Hp → Prop, (∀ H', Nx1 H' → ∃ k', k' < k ∧ W1 (j + 1) k' H') ∧ ∀ x H', J1.yld j H x H' → tGc X vs1 g1 x (L2.wipe σ2 vs1) H' fun σ3 H5 => L2.wipe σ3 vs1 = L2.wipe σ2 vs1 ∧ tT X W0 tc1 σ3 H5 fun b H6 =>
        if b = true then tE X W0 m σ3 H6 fun y H7 => ∃ acc, H7 p = some (.lst acc) ∧ acc.length < sizeLine ∧ Nx1 (upd H7 p (.lst (acc ++ [y]))) else Nx1 H6)
theorem lc_turn2 {W : WX} {σ : L2.St} {w : En} {p : Addr} {Q : V → Hp → Prop} {μ1 μ2 : Mu} {H1 H2 : Hp} {S2 : Sto} {d : D} {x : V} {acc : List D} {us : List V} {N : Hp → Prop} {f : List D → Sto → Res (List D)}
    (re : RelE X.K X.mg μ2 H2 w (L2.wipe σ vs)) (rs : RelS X.K X.mg μ2 H2 S2) (hp : H2 p = some (.lst us)) (np : p ∈ μ2.h) (ra : RepAll X.K X.mg μ2 H2 acc us) (rx : Rep X.K X.mg μ2 H2 d x)
    (o : Out X.K X.mg W σ μ1 H1 (RL X.K X.mg) Q ((turn2 g tc mi1 g1 tc1 m vs1 w d acc S2).bindS f))
    (hN : ∀ μ3 H3 S3 acc' us', StP p μ2 H2 μ3 H3 → RelS X.K X.mg μ3 H3 S3 → H3 p = some (.lst us') → RepAll X.K X.mg μ3 H3 acc' us' → Out X.K X.mg W σ μ1 H1 (RL X.K X.mg) Q (f acc' S3) → N H3) :
    tGc X vs g x (L2.wipe σ vs) H2 fun σ2 H3 => L2.wipe σ2 vs = L2.wipe σ vs ∧ tT X W0 tc σ2 H3 fun b H4 => if b = true then tI X W0 mi1 σ2 H4 fun J1 H5 => Loop2 X g1 tc1 m vs1 p σ2 J1 H5 N else N H4 := by
  refine ⟨w, S2, μ2, d, ⟨re, rs⟩, rx, ?_⟩
  unfold turn2 at o
  cases hg : g d w S2 with
  | none => simp only [hg, Res.bindS] at o; exact o.elim
  | some q =>
    obtain ⟨e, Se⟩ := q
    simp only [hg] at o
    intro μ3 H3 σ3 st3 re3 rs3 hw
    refine ⟨hw.trans (wipe_wipe vs vs σ fun i hi => hi), e, Se, μ3, ⟨re3, rs3⟩, ?_⟩
    have hp3 : H3 p = some (.lst us) := st3.hk _ _ np hp
    have np3 : p ∈ μ3.h := by rw [st3.hid]; exact np
    have ra3 := RepAll.step st3 _ _ ra
    cases htc : tc e Se with
    | exc a b => simp only [htc, Res.bindS] at o; exact o.elim
    | stuck => simp only [htc, Res.bindS] at o; exact o.elim
    | ok c S4 =>
      simp only [htc, Res.bindS] at o
      intro μ4 H4 b st4 rs4 hb
      subst hb
      have hp4 : H4 p = some (.lst us) := st4.hk _ _ np3 hp3
      have np4 : p ∈ μ4.h := by rw [st4.hid]; exact np3
      have ra4 := RepAll.step st4 _ _ ra3
      cases b with
      | false =>
        simp only [Bool.false_eq_true, if_false] at o ⊢
        exact hN μ4 H4 S4 acc us (.of (st3.trans st4)) rs4 hp4 ra4 o
      | true =>
        simp only [if_true] at o ⊢
        refine ⟨e, S4, μ4, ⟨re3.step st4, rs4⟩, ?_⟩
        cases hm : mi1 e S4 with
        | exc a b => simp only [hm, Res.bindS] at o; exact o.elim
        | stuck => simp only [hm, Res.bindS] at o; exact o.elim
        | ok it S5 =>
          simp only [hm] at o
          intro μ5 H5 J1 st5 rs5 rd5
          have hp5 : H5 p = some (.lst us) := st5.hk _ _ np4 hp4
          have np5 : p ∈ μ5.h := by rw [st5.hid]; exact np4
          have ra5 := RepAll.step st5 _ _ ra4
          have re5 : RelE X.K X.mg μ5 H5 (wipeE e vs1) (L2.wipe σ3 vs1) := ((re3.step st4).step st5).wipe vs1
          have s05 : StP p μ2 H2 μ5 H5 := .of ((st3.trans st4).trans st5)
          refine walk_ok (G := fun x H N => tGc X vs1 g1 x (L2.wipe σ3 vs1) H fun σ4 H5 => L2.wipe σ4 vs1 = L2.wipe σ3 vs1 ∧ tT X W0 tc1 σ4 H5 fun b H6 => if b = true then tE X W0 m σ4 H6 fun y H7 => ∃ acc, H7 p = some (.lst acc) ∧ acc.length < sizeLine ∧ N (upd H7 p (.lst (acc ++ [y]))) else N H6) (N := N) (f := f) rd5 np5 hp5 rs5 ra5 o (fun μ H S acc us sp rs hpp ra o => hN μ H S acc us (s05.trans sp) rs hpp ra o) fun μ6 H6 S6 d6 x6 acc6 us6 N6 f6 sp rs6 hp6 ra6 rx6 o6 hN6 => ?_
          have np6 : p ∈ μ6.h := by rw [sp.hid]; exact np5
          exact lc_turn (re5.stp sp.toStp) rs6 hp6 np6 ra6 rx6 o6 hN6
theorem lc2_sem {own : List (Str × Nat)} {σ : L2.St} {H : Hp} {Q : VK} {W : WX} (h : tM X (RL X.K X.mg) W (comp2R mi g tc mi1 g1 tc1 m (own.map (·.2)) vs1) σ H Q) :
    tLc2 (tI X W mi) (tGc X (own.map (·.2)) g) (tT X W0 tc) (tI X W0 mi1) (tGc X vs1 g1) (tT X W0 tc1) (tE X W0 m) (own.map (·.2)) vs1 σ H Q := by
  obtain ⟨env, S, μ, rl, o⟩ := h
  generalize own.map (·.2) = vs at *
  refine ⟨env, S, μ, rl, (Out.bind o).mono fun J H1 ⟨μ1, S1, it, st, rs, rd, o1⟩ p hp => ?_⟩
  have rw1 : RelE X.K X.mg μ1 H1 (wipeE env vs) (L2.wipe σ vs) := (rl.env.step st).wipe vs
  have sh : Stp μ1 H1 (μ1.hide p) (upd H1 p (.lst [])) := .new_hid hp
  have np0 : p ∈ (μ1.hide p).h := List.mem_cons_self
  have rd0 : WalkOk X.K X.mg (μ1.hide p) (upd H1 p (.lst [])) it J := WalkOk.stp sh rd
  have o1 : Out X.K X.mg W σ μ1 H1 (RL X.K X.mg) Q ((walkR (turn2 g tc mi1 g1 tc1 m vs1 (wipeE env vs)) it [] S1).bindS fun acc S => .ok acc S) := by
    have e : ∀ r : Res (List D), Out X.K X.mg W σ μ1 H1 (RL X.K X.mg) Q r → (∀ e S, r ≠ .exc e S) → Out X.K X.mg W σ μ1 H1 (RL X.K X.mg) Q (r.bindS fun acc S => .ok acc S) := fun r o n => by
      cases r with
      | ok a S => exact o
      | exc e S => exact (n e S rfl).elim
      | stuck => exact o
    exact e _ o1 fun e S => walkR_noexc e S
  refine walk_ok (T := turn2 g tc mi1 g1 tc1 m vs1 (wipeE env vs)) (N := fun H => Q (.ref p) H) (f := fun acc S => .ok acc S) rd0 np0 upd_same (rs.hide hp) .nil o1 (fun μ2 H2 S2 acc us sp rs2 hp2 ra o => ?_) fun μ6 H6 S6 d6 x6 acc6 us6 N6 f6 sp rs6 hp6 ra6 rx6 o6 hN6 => lc_turn2 ((rw1.stp sh).stp sp.toStp) rs6 hp6 (by rw [sp.hid]; exact np0) ra6 rx6 o6 hN6
  have sub : ∀ a ∈ μ1.h, a ∈ μ2.h := fun a ha => by rw [sp.hid]; exact List.mem_cons_of_mem _ ha
  have su : Stp μ2 H2 ⟨μ2.l, μ1.h⟩ H2 := .unhide sub
  have np : p ∉ (⟨μ2.l, μ1.h⟩ : Mu) := fun z => z.elim (fun z => rs2.dis p z (by rw [sp.hid]; exact List.mem_cons_self)) (rs.notinH hp)
  exact o ⟨μ2.l, μ1.h⟩ H2 (.ref p) ⟨(sh.trans sp.toStp).trans su, rfl, fun a u ha e nt => sp.hk a u (ne_of_none e hp) (List.mem_cons_of_mem _ ha) (by rw [upd_ne (ne_of_none e hp)]; exact e) nt⟩ (rs2.unhide sub)
      ⟨p, us, rfl, hp2, np, RepAll.stp su _ _ ra⟩
theorem lc2_frozen {σ : L2.St} {H : Hp} {Q : VK} {W : WX} (h : tE X W (eComp2 mi g tc mi1 g1 tc1 m vs vs1) σ H Q) : tM X (RL X.K X.mg) W (comp2R mi g tc mi1 g1 tc1 m vs vs1) σ H Q := by
  obtain ⟨env, S, μ, rl, o⟩ := h
  refine ⟨env, S, μ, rl, (Out.bind (R := RL X.K X.mg) o).mono fun v H1 ⟨μ1, S1, ds, st, rs, r, o1⟩ => o1 μ1 H1 v .refl rs (rl_lst r)⟩
section
variable {scope : Scope} {own : List (Str × Nat)} {W : WX} {ifs ifs1 : List Expr}
theorem sE_comp2 (hc : X.calm = true) (hN : X.N.Nodup) (hi : PI X tg iter (tI X W mi)) (ok : BlkOk X.N X.env.scope scope own) (hv : ∀ i ∈ vs1, i ∈ own.map (·.2))
    (hg : ∀ (s : Shared) (H : Hp) (C : Addr) (cl : List (Str × Addr)) (fp : List Addr), PG (X.blk s H scope (compEnvC scope cl C X.env) fp) tg (tGc (X.blk s H scope (compEnvC scope cl C X.env) fp) (own.map (·.2)) g))
    (ht : ∀ (s : Shared) (H : Hp) (C : Addr) (cl : List (Str × Addr)) (fp : List Addr), PTs' (X.blk s H scope (compEnvC scope cl C X.env) fp) ifs tc)
    (hi1 : ∀ (s : Shared) (H : Hp) (C : Addr) (cl : List (Str × Addr)) (fp : List Addr), PI (X.blk s H scope (compEnvC scope cl C X.env) fp) tg1 iter1 (tI (X.blk s H scope (compEnvC scope cl C X.env) fp) W0 mi1))
    (hg1 : ∀ (s : Shared) (H : Hp) (C : Addr) (cl : List (Str × Addr)) (fp : List Addr), PG (X.blk s H scope (compEnvC scope cl C X.env) fp) tg1 (tGc (X.blk s H scope (compEnvC scope cl C X.env) fp) vs1 g1))
    (ht1 : ∀ (s : Shared) (H : Hp) (C : Addr) (cl : List (Str × Addr)) (fp : List Addr), PTs' (X.blk s H scope (compEnvC scope cl C X.env) fp) ifs1 tc1)
    (he : ∀ (s : Shared) (H : Hp) (C : Addr) (cl : List (Str × Addr)) (fp : List Addr), PE (X.blk s H scope (compEnvC scope cl C X.env) fp) elt (tE (X.blk s H scope (compEnvC scope cl C X.env) fp) W0 m)) (hs : ∀ x, foldedSetIterable iter X.env x = pure x := by intro _; rfl) (hs1 : ∀ env x, foldedSetIterable iter1 env x = pure x := by intro _ _; rfl) :
    PE X (.ListComp elt [⟨tg, iter, ifs, 0⟩, ⟨tg1, iter1, ifs1, 0⟩] scope pos) (tE X W (eComp2 mi g tc mi1 g1 tc1 m (own.map (·.2)) vs1)) :=
  pe_to (pe_lc2 (g := tGc X (own.map Prod.snd) g) (tt := tT X W0 tc) (te := tE X W0 m) (wi1 := tI X W0 mi1) (g1 := tGc X vs1 g1) (tt1 := tT X W0 tc1) hc hN hi ok hv hg ht hi1 hg1 ht1 he hs hs1) fun σ H Q h => lc2_sem (lc2_frozen h)
theorem sS_setComp2 {i : Nat} {y : Str} {py spos : Pos} (hc : X.calm = true) (hN : X.N.Nodup) (hy : X.N[i]? = some y) (hyl : X.env.scope.names.lookup y = some .local)
    (hsw : swapsWith (.ListComp elt [⟨tg, iter, ifs, 0⟩, ⟨tg1, iter1, ifs1, 0⟩] scope pos) (some (.Name y py)) spos.line X.env = pure true) (hi : PI X tg iter (tI X W mi)) (ok : BlkOk X.N X.env.scope scope own) (hv : ∀ i ∈ vs1, i ∈ own.map (·.2))
    (hg : ∀ (s : Shared) (H : Hp) (C : Addr) (cl : List (Str × Addr)) (fp : List Addr), PG (X.blk s H scope (compEnvC scope cl C X.env) fp) tg (tGc (X.blk s H scope (compEnvC scope cl C X.env) fp) (own.map (·.2)) g))
    (ht : ∀ (s : Shared) (H : Hp) (C : Addr) (cl : List (Str × Addr)) (fp : List Addr), PTs' (X.blk s H scope (compEnvC scope cl C X.env) fp) ifs tc)
    (hi1 : ∀ (s : Shared) (H : Hp) (C : Addr) (cl : List (Str × Addr)) (fp : List Addr), PI (X.blk s H scope (compEnvC scope cl C X.env) fp) tg1 iter1 (tI (X.blk s H scope (compEnvC scope cl C X.env) fp) W0 mi1))
    (hg1 : ∀ (s : Shared) (H : Hp) (C : Addr) (cl : List (Str × Addr)) (fp : List Addr), PG (X.blk s H scope (compEnvC scope cl C X.env) fp) tg1 (tGc (X.blk s H scope (compEnvC scope cl C X.env) fp) vs1 g1))
    (ht1 : ∀ (s : Shared) (H : Hp) (C : Addr) (cl : List (Str × Addr)) (fp : List Addr), PTs' (X.blk s H scope (compEnvC scope cl C X.env) fp) ifs1 tc1)
    (he : ∀ (s : Shared) (H : Hp) (C : Addr) (cl : List (Str × Addr)) (fp : List Addr), PE (X.blk s H scope (compEnvC scope cl C X.env) fp) elt (tE (X.blk s H scope (compEnvC scope cl C X.env) fp) W0 m)) (hs : ∀ x, foldedSetIterable iter X.env x = pure x := by intro _; rfl) (hs1 : ∀ env x, foldedSetIterable iter1 env x = pure x := by intro _ _; rfl) :
    PS X (.Assign [.Name y py] (.ListComp elt [⟨tg, iter, ifs, 0⟩, ⟨tg1, iter1, ifs1, 0⟩] scope pos) spos) (tS X W (sSet i (eComp2 mi g tc mi1 g1 tc1 m (own.map (·.2)) vs1))) :=
  ps_to (ps_setLc2 (g := tGc X (own.map Prod.snd) g) (tt := tT X W0 tc) (te := tE X W0 m) (wi1 := tI X W0 mi1) (g1 := tGc X vs1 g1) (tt1 := tT X W0 tc1) hc hN hy hyl hsw hi ok hv hg ht hi1 hg1 ht1 he hs hs1) fun D σ H ⟨env, S, μ, rl, o⟩ => lc2_sem (lc2_frozen ⟨env, S, μ, rl, (OutS.rs rl.env o).mono fun x H1 ⟨μ1, S1, d, st, rs, r, o1⟩ => o1 μ1 H1 _ .refl ((rl.env.step st).set r) rs⟩)
end
end
/-! ### str(int) -/
def fStr (_ : Sto) (ds : List D) : Option D := match ds with
  | [.int i] => if i.natAbs.log2 < 1920 then some (.str (toString i)) else none
  | [.str z] => some (.str z)
  | _ => none
theorem c_str {X : Cx} : CallR X (.type "str") (rB X.K X.mg fStr) := fun pins s σ H xs us Q I rx w => by
  obtain ⟨μ, S, ds, d, rs, ra, e, q⟩ := w
  unfold fStr at e
  split at e
  · split at e
    · cases e
      obtain ⟨v, rfl, r1⟩ := repAll1 ra
      unfold Rep at r1; subst r1
      exact call_str_int pins s σ H _ us Q I rx ⟨_, rfl, by assumption, q H _ .rfl (rep_str _)⟩
    · cases e
  · cases e
    obtain ⟨v, rfl, r1⟩ := repAll1 ra
    unfold Rep at r1; subst r1
    exact SkE.call_str_str pins s σ H _ us Q I rx ⟨_, rfl, q H _ .rfl (rep_str _)⟩
  · cases e
end DL

set_option Elab.async false
set_option linter.all false
set_option maxRecDepth 100000
/-! DL32: d.get(k, x), d.setdefault(k, x), xs.sort(), min and max of two values, keyword-only parameters. -/
namespace DL
open PySem PySem.Spec PyProof.Rows L2 LamX
/-! ### d.get(k, x) -/
def isD (S : Sto) (d : D) : Bool := match d with
  | .loc l => (dctOf S[l]?).isSome
  | _ => false
def dGetD (S : Sto) (d k z : D) : Option D := match d with
  | .loc l => match dctOf S[l]? with
    | some (t, kvs) => if keyOk t k = true then some ((dLook t kvs k).getD z) else none
    | none => none
  | _ => none
def eGet (md mk mz : ME) : ME := fun env S => (md env S).bind fun d S => if isD S d = true then (mk env S).bind fun k S => (mz env S).bind fun z S => ofO S (dGetD S d k z) else .stuck
section
variable {K : PySem.W.Frag} {mg : Str → Option Value} {μ : Mu} {H : Hp} {S : Sto}
theorem isD_ok (rs : RelS K mg μ H S) {l : Nat} {a : Addr} (hμ : μ.l[l]? = some a) (h : (dctOf S[l]?).isSome = true) : IsD H a := by
  obtain ⟨⟨t, kvs⟩, e⟩ := Option.isSome_iff_exists.mp h
  rcases dctOf_some e with es | es
  · obtain ⟨a', h1, ro⟩ := rs.at_ l _ es
    rw [hμ] at h1; cases h1
    cases t with
    | false => obtain ⟨vs, ks, ⟨h2, _⟩, _⟩ := ro; exact .inl ⟨_, .of h2⟩
    | true => obtain ⟨vs, ks, ⟨h2, _⟩, _⟩ := ro; exact .inr ⟨_, .of h2⟩
  · obtain ⟨a', h1, ro⟩ := rs.at_ l _ es
    rw [hμ] at h1; cases h1
    cases t with
    | false => obtain ⟨vs, ks, ⟨⟨od, h2⟩, _⟩, _⟩ := ro; exact .inl ⟨_, .inr ⟨od, h2⟩⟩
    | true => obtain ⟨vs, ks, ⟨⟨od, h2⟩, _⟩, _⟩ := ro; exact .inr ⟨_, .inr ⟨od, h2⟩⟩
end
section
variable {X : Cx} {W : WX} {o e f : Expr} {apos cpos : Pos} {md mk mz : ME}
theorem sE_get (hu : X.A.units + 1 < cLine) (ho : PE X o (tE X W md)) (he : PE X e (tE X W mk)) (hf : PE X f (tE X W mz)) (m : M2 X o "get" apos e f cpos := by exact ⟨rfl, rfl, rfl, rfl⟩) : PE X (.Call (.Attribute o "get" apos) [e, f] [] cpos) (tE X W (eGet md mk mz)) :=
  pe_to (pe_dget2 hu ho he hf m) fun σ H Q ⟨env, S, μ, rl, o⟩ => ⟨env, S, μ, rl, (Out.bind o).mono fun x H1 ⟨μ1, S1, d, st, rs, rd, o1⟩ => by
    split at o1
    · rename_i hd
      unfold isD at hd
      split at hd
      · rename_i l
        unfold Rep at rd
        obtain ⟨a, rfl, hμ⟩ := rd
        refine ⟨a, rfl, isD_ok rs hμ hd, env, S1, μ1, ⟨rl.env.step st, rs⟩, (Out.bind o1).mono fun y H2 ⟨μ2, S2, k, st2, rs2, rk, o2⟩ => ?_⟩
        refine ⟨env, S2, μ2, ⟨(rl.env.step st).step st2, rs2⟩, (Out.bind o2).mono fun z H3 ⟨μ3, S3, dz, st3, rs3, rz, o3⟩ => ?_⟩
        cases eg : dGetD S3 (.loc l) k dz with
        | none => rw [eg] at o3; exact o3.elim
        | some r =>
          rw [eg] at o3
          unfold dGetD at eg
          dsimp only at eg
          split at eg
          · rename_i t kvs es
            split at eg
            · rename_i hk
              cases eg
              obtain ⟨og, g1, g2⟩ := look_okO rs3 (st3.get (st2.get hμ)) es hk (Rep.step st3 _ _ rk)
              refine ⟨og, g1, ?_⟩
              split at g2
              · rename_i dv ev
                obtain ⟨v, rfl, rv⟩ := g2
                exact o3 μ3 H3 v .refl rs3 (by rw [ev]; exact rv)
              · rename_i ev
                subst g2
                exact o3 μ3 H3 z .refl rs3 (by rw [ev]; exact rz)
            · cases eg
          · cases eg
      · cases hd
    · exact o1.elim⟩
end
/-! ### d.setdefault(k, x) -/
def eSetd (md mk mz : ME) : ME := fun env S => (md env S).bind fun d S => if isD S d = true then (mk env S).bind fun k S => (mz env S).bind fun z S => match d with
  | .loc l => match S[l]? with
    | some (.dct false kvs) => if keyOk false k = true ∧ kvs.length < 1000000 then (match dLook false kvs k with
      | some v => .ok v S
      | none => .ok z (S.set l (.dct false (dPut false kvs k z)))) else .stuck
    | _ => .stuck
  | _ => .stuck else .stuck
section
variable {X : Cx} {W : WX} {o e f : Expr} {apos cpos : Pos} {md mk mz : ME}
theorem dput_eq (kvs : List (D × D)) (k v : D) : dPut false kvs k v = if (kvs.any fun p => keq false p.1 k) = true then kvs.map (fun p => if keq false p.1 k = true then (p.1, v) else p) else kvs ++ [(k, v)] := rfl
theorem sE_setd (ho : PE X o (tE X W md)) (he : PE X e (tE X W mk)) (hf : PE X f (tE X W mz)) (m : M2 X o "setdefault" apos e f cpos := by exact ⟨rfl, rfl, rfl, rfl⟩) : PE X (.Call (.Attribute o "setdefault" apos) [e, f] [] cpos) (tE X W (eSetd md mk mz)) :=
  pe_to (pe_dsetd ho he hf m) fun σ H Q ⟨env, S, μ, rl, o⟩ => ⟨env, S, μ, rl, (Out.bind o).mono fun x H1 ⟨μ1, S1, d, st, rs, rd, o1⟩ => by
    split at o1
    · rename_i hd
      unfold isD at hd
      split at hd
      · rename_i l
        unfold Rep at rd
        obtain ⟨a, rfl, hμ⟩ := rd
        refine ⟨a, rfl, isD_ok rs hμ hd, env, S1, μ1, ⟨rl.env.step st, rs⟩, (Out.bind o1).mono fun y H2 ⟨μ2, S2, k, st2, rs2, rk, o2⟩ => ?_⟩
        refine ⟨env, S2, μ2, ⟨(rl.env.step st).step st2, rs2⟩, (Out.bind o2).mono fun z H3 ⟨μ3, S3, dz, st3, rs3, rz, o3⟩ => ?_⟩
        dsimp only at o3
        split at o3
        · rename_i kvs es
          split at o3
          · rename_i hk
            obtain ⟨hk, hl⟩ := hk
            have hμ3 := st3.get (st2.get hμ)
            obtain ⟨a', h1, vs, ks, ⟨h2, h3⟩, h4⟩ := rs3.at_ _ _ es
            rw [hμ3] at h1; cases h1
            obtain ⟨kk, rfl⟩ := key_f hk
            have hky := rep_key (Rep.step st3 _ _ rk)
            have hlook := look_zip keq_f kk h3 h4
            have hlen : (ks.zip vs).length < sizeLine := by
              have a1 : (ks.zip vs).length ≤ kvs.length := by
                have := congrArg List.length h3
                simp at this
                rw [List.length_zip]; omega
              rw [sizeLine_eq]; omega
            refine ⟨ks.zip vs, kk, h2, hky, hlen, fun v hv => ?_, fun hn => ?_⟩
            · cases ed : dLook false kvs (keyD kk) with
              | none =>
                have ed' : ((kvs.find? fun p => keq false p.1 (keyD kk)).map (·.2)) = none := ed
                rw [ed'] at hlook
                rw [hlook] at hv; cases hv
              | some dv =>
                have ed' : ((kvs.find? fun p => keq false p.1 (keyD kk)).map (·.2)) = some dv := ed
                rw [ed'] at hlook
                obtain ⟨v', h5, h6⟩ := hlook
                rw [h5] at hv; cases hv
                rw [ed] at o3
                exact o3 μ3 H3 v .refl rs3 h6
            · cases ed : dLook false kvs (keyD kk) with
              | some dv =>
                have ed' : ((kvs.find? fun p => keq false p.1 (keyD kk)).map (·.2)) = some dv := ed
                rw [ed'] at hlook
                obtain ⟨v', h5, h6⟩ := hlook
                rw [h5] at hn; cases hn
              | none =>
                rw [ed] at o3
                obtain ⟨ks', vs', p1, p2, p3⟩ := put_zip keq_f kk rz h3 h4
                have st4 : Step μ3 H3 μ3 (upd H3 a (.dK (putK (ks.zip vs) kk z))) := Step.write rs3 hμ3 (.of h2)
                rw [dput_eq] at o3
                refine o3 μ3 _ z st4 (rs3.write hμ3 (.of h2) ⟨vs', ks', ⟨by rw [p1]; exact upd_same, p2⟩, RepAll.step st4 _ _ p3⟩) (Rep.step st4 _ _ rz)
          · exact o3.elim
        · exact o3.elim
      · cases hd
    · exact o1.elim⟩
end
end DL

set_option Elab.async false
set_option linter.all false
set_option maxRecDepth 100000
/-! DL33: xs.sort(), min of two values, sorted(dict), keyword-only parameters. -/
namespace DL
open PySem PySem.Spec PyProof.Rows L2 LamX
/-! ### xs.sort() -/
/-- data without lists -/
def dokT : Nat → D → Bool
  | _, .none => true
  | _, .bool _ => true
  | _, .int _ => true
  | _, .str x => PyData.strOk x
  | n + 1, .tup xs => xs.all (dokT n)
  | n + 1, .tpn xs => xs.all (dokT n)
  | _, _ => false
mutual
def noL : PyData → Bool
  | .list _ => false
  | .dict _ => false
  | .tuple xs => noLs xs
  | _ => true
def noLs : List PyData → Bool
  | [] => true
  | x :: xs => noL x && noLs xs
end
theorem noLs_all : ∀ {xs : List PyData}, (∀ x ∈ xs, noL x = true) → noLs xs = true
  | [], _ => by unfold noLs; rfl
  | x :: xs, h => by
    unfold noLs
    rw [h x List.mem_cons_self, noLs_all fun y hy => h y (List.mem_cons_of_mem _ hy)]; rfl
theorem dokT_noL : ∀ (n : Nat) (d : D), dokT n d = true → noL (pdF d) = true
  | n, .none, _ => by unfold pdF noL; rfl
  | n, .bool _, _ => by unfold pdF noL; rfl
  | n, .int _, _ => by unfold pdF noL; rfl
  | n, .str _, _ => by unfold pdF noL; rfl
  | 0, .tup _, h => by cases h
  | 0, .tpn _, h => by cases h
  | n + 1, .tup xs, h => by
    have h : xs.all (dokT n) = true := h
    unfold pdF noL
    rw [pdFs_map]
    refine noLs_all fun x hx => ?_
    obtain ⟨d, hd, rfl⟩ := List.mem_map.mp hx
    exact dokT_noL n d (List.all_eq_true.mp h d hd)
  | n + 1, .tpn xs, h => by
    have h : xs.all (dokT n) = true := h
    unfold pdF noL
    rw [pdFs_map]
    refine noLs_all fun x hx => ?_
    obtain ⟨d, hd, rfl⟩ := List.mem_map.mp hx
    exact dokT_noL n d (List.all_eq_true.mp h d hd)
  | n, .lst _, h => by cases n <;> cases h
  | n, .ro _, h => by cases n <;> cases h
  | n, .ty _, h => by cases n <;> cases h
  | n, .loc _, h => by cases n <;> cases h
  | n, .glo _, h => by cases n <;> cases h
  | n, .adr _, h => by cases n <;> cases h
  | n, .clo _ _ _ _, h => by cases n <;> cases h
mutual
theorem reads_nil {h : Heap} : ∀ {v : Value} {d : PyData} {as : List Addr}, Reads h v d as → noL d = true → as = []
  | _, _, _, .none, _ => rfl
  | _, _, _, .bool _, _ => rfl
  | _, _, _, .int _ _, _ => rfl
  | _, _, _, .str _ _, _ => rfl
  | _, _, _, .list _ _ _ _, n => by unfold noL at n; cases n
  | _, _, _, .tuple _ _ _ r, n => by
    unfold noL at n
    exact readsAll_nil r n
  | _, _, _, .dict _ _ _ _ _, n => by unfold noL at n; cases n
theorem readsAll_nil {h : Heap} : ∀ {v : List Value} {d : List PyData} {as : List Addr}, ReadsAll h v d as → noLs d = true → as = []
  | _, _, _, .nil, _ => rfl
  | _, _, _, .cons r rs, n => by
    unfold noLs at n
    rw [Bool.and_eq_true] at n
    rw [reads_nil r n.1, readsAll_nil rs n.2]; rfl
end
def bSort : BM := fun S d ds => match d, ds with
  | .loc l, [] => match S[l]? with
    | some (.lst xs) => if sortOk xs = true ∧ xs.all (dokT 60) = true ∧ xs.length ≤ 1000000 then some (.none, S.set l (.lst (xs.mergeSort dle))) else none
    | _ => none
  | _, _ => none
theorem each_and {α β : Type} {P Q : α → β → Prop} : ∀ {xs : List α} {ys : List β}, PySem.W.EachIs P xs ys → (∀ x, ∀ y ∈ ys, P x y → Q x y) → PySem.W.EachIs Q xs ys
  | _, _, .nil, _ => .nil
  | _, _, .cons h t, i => .cons (i _ _ List.mem_cons_self h) (each_and t fun x y hy => i x y (List.mem_cons_of_mem _ hy))
section
variable {X : Cx}
theorem m_sort (hu : X.A.units + 65 < cLine) : MtR X "list.sort" (rM X.K X.mg bSort) := by
  intro pins s σ H x xs v us Q I rx rxs ⟨μ, S, d, ds, r, S', rs, rd, rds, e, q⟩
  unfold bSort at e
  split at e
  · rename_i l
    unfold Rep at rd
    obtain ⟨ad, rfl, hμ⟩ := rd
    unfold RepAll at rds
    subst rds
    split at e
    · rename_i zs es
      split at e
      · rename_i hk
        cases e
        obtain ⟨a', h1, vs, h2, h3⟩ := rs.at_ _ _ es
        rw [hμ] at h1; cases h1
        cases rx
        cases rxs
        obtain ⟨k1, k2, k3⟩ := sort_alike hk.1
        obtain ⟨hz, its, n, rv, hob⟩ := I.hok ad _ h2
        have hlen := h3.length
        have en : (zs.zip vs).map (fun p : D × V => pdF p.1) = zs.map pdF := by
          conv => rhs; rw [← map_zip_fst hlen, List.map_map]
          rfl
        have er := each_and (each_reads I k3 h3 rv) (Q := fun u (p : D × V) => ∃ as, Reads s.heap u (pdF p.1) as ∧ ad ∉ as) fun u p hp ⟨as, hr⟩ => ⟨as, hr, by
          rw [reads_nil hr (dokT_noL 60 _ (List.all_eq_true.mp hk.2.1 _ (List.of_mem_zip hp).1))]; simp⟩
        refine PySem.W.list_sort_data (R := fun u (p : D × V) => L2.RelV p.2 u) (bs := zs.zip vs) (enc := fun p => pdF p.1) hob (vals_zip hlen rv) er (by rw [en]; exact k1) (by rw [en]; exact k2)
          (by rw [List.length_zip, hlen, Nat.min_self]; exact hz) (fun b hb => ?_) fun out ho he => ?_
        · have := (dok_lay 60 b.1 (k3 _ (List.of_mem_zip hb).1)).2
          omega
        · obtain ⟨ep, he'⟩ := PyProof.Rows.sortedHeap_at (vs := its) (out := out.toArray) hob
          have rv' := each_vals he
          have hp : ∀ p ∈ (zs.zip vs).mergeSort (PySem.W.dataLe false fun p => pdF p.1), Rep X.K X.mg μ H p.1 p.2 := fun p hp => repAll_mem h3 p (List.mem_mergeSort.mp hp)
          have rr := repAll_of hp
          rw [mergeSort_fst hlen] at rr
          have st : Step μ H μ (upd H ad (.lst (((zs.zip vs).mergeSort (PySem.W.dataLe false fun p => pdF p.1)).map (·.2)))) := Step.write rs hμ (.of h2)
          refine ⟨.non, upd H ad (.lst (((zs.zip vs).mergeSort (PySem.W.dataLe false fun p => pdF p.1)).map (·.2))), I.write (e := ad) (t' := s.toks) (by rw [h2]; trivial) (.inl rfl) (fun b u hb hu => ?_) ⟨_, he'⟩ ⟨?_, out, ep, rv', he'⟩, rfl, q μ _ .non st (rs.write hμ (.of h2) ⟨_, upd_same, RepAll.step st _ _ rr⟩) rep_none⟩
          · rw [PyProof.Rows.sortedHeap_old hb (Heap.lt_size hu)]; exact hu
          · rw [List.length_map, List.length_mergeSort, List.length_zip, hlen, Nat.min_self]
            exact hz
      · cases e
    · cases e
  · cases e
end
/-! ### min(a, b) -/
section
variable {prog : Program} {w : World} {A : Around} {E : Value → Shared → Prop} {s : Shared}
open PySem.W in
theorem call_min_twoH {a b : Value} {Q : Value → Shared → Prop}
    (h : wpAny (model prog w) A.in1 (pyIter (.ref s.heap.objs.size)) (fun it s₂ => ∃ I fp wr G n P St H bt, it = .ref I ∧ WalksS prog w A.in1 I fp wr G n P St ∧ St 0 s₂ ∧ (∀ b ∈ fp, b < s₂.heap.objs.size) ∧ 0 < n ∧
      (∀ b o, H.get? b = some o → b ∉ wr) ∧ (∀ b o, H.get? b = some o → s₂.heap.get? b = some o) ∧ CmpIn prog w A.in1 .Lt H P bt ∧ ∀ v s', P (argBest bt (n - 1)) v → Moved wr G s₂ s' → Q v s') E
      { s with heap := s.heap.push { cls := .type "tuple", data := .seq #[a, b] } }) :
    wpAny (model prog w) A (call (.builtin "min") [a, b]) Q E s := by
  have hname : (toString "min" ++ toString ".loop" : String) = "min.loop" := by decide
  refine call_function_tree PySem.F.kind_min PySem.F.plain_min PySem.F.entry_min (PySem.F.args_min2 _ _) ?_
  show wpAny _ A.in1 (Builtin.Builtins.bindParams "min" ["key", "default"] 0 ⟨[], []⟩ >>= _) _ _ s
  refine wpAny_bind (wpAny_of_eq (show Builtin.Builtins.bindParams "min" ["key", "default"] 0 ⟨[], []⟩ = pure [none, none] from rfl) ?_)
  show wpAny _ A.in1 (newTuple [a, b] >>= _) _ _ s
  refine wpAny_bind (wpAny_newObj_type ?_)
  refine wpAny_bind (wpAny_mono h (fun it s₂ h₂ => ?_) fun _ _ e => e)
  obtain ⟨I, fp, wr, G, n, P, St, H, bt, rfl, W, hst, hfp, hn, hw, hkeep, hcmp, hQ⟩ := h₂
  refine wpAny_bind (wpAny_newObj_type ?_)
  have hSf : s₂.heap.objs.size ∉ fp := fun hm => Nat.lt_irrefl _ (hfp _ hm)
  rw [hname]
  refine wpAny_pure ⟨plainId_quiet PySem.F.plain_min_loop _, codeAny_min_loop_firstH W H hw bt hcmp s₂.heap.objs.size hSf (fresh_in hkeep) _ hn (fun b o e => Heap.get?_push_of_some _ (hkeep b o e)) (W.frame 0 s₂ _ s₂.toks hst (Nat.le_refl _) fun b _ o e => Heap.get?_push_of_some _ e) (Heap.get?_push_size _ rfl) fun v s' hP hm => ?_⟩
  exact hQ v s' hP (Moved.drop_new (tk := s₂.toks) hm (Nat.le_refl _))
open PySem.W in
theorem min_two_data {a b : Value} {d e : PyData} {as bs : List Addr} {Q : Value → Shared → Prop} (hh : A.handled = none) (ra : Reads s.heap a d as) (rb : Reads s.heap b e bs) (hal : AlikeAll [d, e]) (hu : A.units + 1 + PyData.depthAll [d, e] < cLine)
    (h : ∀ h' tk, (∀ b o, s.heap.get? b = some o → h'.get? b = some o) → Q (if dataLt e d = true then b else a) { s with heap := h', toks := tk }) : wpAny (model prog w) A (call (.builtin "min") [a, b]) Q E s := by
  have k0 : ∀ b' o, s.heap.get? b' = some o → (s.heap.push { cls := .type "tuple", data := .seq #[a, b] }).get? b' = some o := fun _ _ q => Heap.get?_push_of_some _ q
  have hr : ReadsAll (s.heap.push { cls := .type "tuple", data := .seq #[a, b] }) #[a, b].toList [d, e] (as ++ (bs ++ [])) := .cons (reads_keeps k0 ra) (.cons (reads_keeps k0 rb) .nil)
  refine call_min_twoH (iter_tupleW (A := A.in1) (s := { s with heap := s.heap.push { cls := .type "tuple", data := .seq #[a, b] } }) (vs := #[a, b]) hh (IsTup.new _ _) fun s₂ ee W st hfp hw hk => ?_)
  refine ⟨_, _, _, _, _, _, _, s.heap.push { cls := .type "tuple", data := .seq #[a, b] }, _, rfl, W, st, hfp, Nat.zero_lt_succ _, hw, hk, cmpIn_lt (A := A.in1) (s := { s with heap := s.heap.push { cls := .type "tuple", data := .seq #[a, b] } }) hr hal (by show A.units + 1 + _ < _; exact hu), fun v s' hP m => ?_⟩
  obtain ⟨h', tk, rfl, hk'⟩ := moved_old ee rfl m
  have hq := h h' tk fun b' o q => hk' b' o (k0 b' o q)
  have hb : argBest (fun i j => dataLt ([d, e].getD i .none) ([d, e].getD j .none)) (#[a, b].size - 1) = if dataLt e d = true then 1 else 0 := rfl
  have hP : #[a, b][argBest (fun i j => dataLt ([d, e].getD i .none) ([d, e].getD j .none)) (#[a, b].size - 1)]? = some v := hP
  rw [hb] at hP
  split at hP
  · rename_i hc
    rw [if_pos hc] at hq
    cases hP
    exact hq
  · rename_i hc
    rw [if_neg hc] at hq
    cases hP
    exact hq
end
def fMinG (S : Sto) (ds : List D) : Option D := match ds with
  | [a, b] => if dok 60 a = true ∧ dok 60 b = true ∧ PySem.W.alike (pdF a) (pdF b) = true ∧ PySem.W.alike (pdF b) (pdF a) = true ∧ PySem.W.alike (pdF a) (pdF a) = true ∧ PySem.W.alike (pdF b) (pdF b) = true ∧ isN a = false ∧ isN b = false then some (if PySem.W.dataLt (pdF b) (pdF a) = true then b else a) else none
  | _ => none
theorem pd_none {d : D} {n : Nat} (h : dok n d = true) (e : pdF d = .none) : d = .none := by
  cases d with
  | none => rfl
  | bool b => unfold pdF at e; cases e
  | int b => unfold pdF at e; cases e
  | str b => unfold pdF at e; cases e
  | tup b => unfold pdF at e; cases e
  | tpn b => unfold pdF at e; cases e
  | lst b => unfold pdF at e; cases e
  | _ => cases n <;> cases h
section
variable {X : Cx}
theorem c_minG (hc : X.calm = true) (hu : X.A.units + 65 < cLine) : CallR X (.builtin "min") (rB X.K X.mg fMinG) := by
  intro pins s σ H xs us Q I rx ⟨μ, S, ds, d, rs, ra, e, q⟩
  unfold fMinG at e
  split at e
  · rename_i a b
    split at e
    · rename_i hk
      cases e
      obtain ⟨k1, k2, k3, k4, k5, k6, k7, k8⟩ := hk
      obtain ⟨v, w', rfl, r1, r2⟩ := repAll2 ra
      obtain ⟨u1, u2, rfl, x1, x2⟩ := vals2 rx
      obtain ⟨as, e1⟩ := Dp.reads I _ _ _ (dp_of 60 a v k1 r1.w) x1
      obtain ⟨bs, e2⟩ := Dp.reads I _ _ _ (dp_of 60 b w' k2 r2.w) x2
      have d1 := (dok_lay 60 a k1).2
      have d2 := (dok_lay 60 b k2).2
      refine min_two_data (I.ok.hd hc) e1 e2 ⟨fun x hx y hy => ?_, fun x hx => ?_⟩ ?_ fun h' tk k => ?_
      · simp only [List.mem_cons, List.not_mem_nil, or_false] at hx hy
        rcases hx with rfl | rfl <;> rcases hy with rfl | rfl
        · exact k5
        · exact k3
        · exact k4
        · exact k6
      · simp only [List.mem_cons, List.not_mem_nil, or_false] at hx
        rcases hx with rfl | rfl
        · intro z; rw [pd_none k1 z] at k7; cases k7
        · intro z; rw [pd_none k2 z] at k8; cases k8
      · have : PyData.depthAll [pdF a, pdF b] ≤ 60 := by
          unfold PyData.depthAll PyData.depthAll PyData.depthAll
          omega
        omega
      · have I2 : L2.Inv X pins σ H { s with heap := h', toks := tk } := I.kept k
        split
        · rename_i hl
          rw [if_pos hl] at q
          exact ⟨w', H, I2, x2, q H w' .rfl r2⟩
        · rename_i hl
          rw [if_neg hl] at q
          exact ⟨v, H, I2, x1, q H v .rfl r1⟩
    · cases e
  · cases e
/-! ### sorted(d), keys are ints -/
def fSortedDI (S : Sto) (ds : List D) : Option D := match ds with
  | [.loc l] => match S[l]? with
    | some (.dct false kvs) => match intsOf (kvs.map (·.1)) with
      | some ns => if ns.length < 64 then some (.lst ((ns.mergeSort fun a b => decide (a ≤ b)).map .int)) else none
      | none => none
    | _ => none
  | _ => none
theorem ints_keys : ∀ {ks : List Key} {ns : List Int}, intsOf (ks.map keyD) = some ns → ks = ns.map Sum.inl
  | [], ns, e => by cases e; rfl
  | .inl i :: ks, ns, e => by
    have e : (intsOf (ks.map keyD)).map (i :: ·) = some ns := e
    obtain ⟨ms, h, rfl⟩ := Option.map_eq_some_iff.mp e
    rw [ints_keys h]; rfl
  | .inr x :: ks, ns, e => by cases e
theorem perm_sorted {ys ns : List Int} (hp : ys.Perm ns) (hs : ys.Pairwise (· ≤ ·)) : ys = ns.mergeSort fun a b => decide (a ≤ b) := by
  refine List.Perm.eq_of_pairwise (le := (· ≤ ·)) (fun a b _ _ h1 h2 => Int.le_antisymm h1 h2) hs ?_ (hp.trans (List.mergeSort_perm _ _).symm)
  have := List.pairwise_mergeSort (le := fun a b : Int => decide (a ≤ b)) (fun a b c h1 h2 => by simp at *; omega) (fun a b => by simp; omega) ns
  exact this.imp fun h => by simpa using h
theorem c_sortedDI (hc : X.calm = true) : CallR X (.builtin "sorted") (rB X.K X.mg fSortedDI) := callR_to (call_sortedDI hc) fun xs H Q ⟨μ, S, ds, d, rs, ra, e, q⟩ => by
  unfold fSortedDI at e
  split at e
  · rename_i l
    obtain ⟨v, rfl, r1⟩ := repAll1 ra
    unfold Rep at r1
    obtain ⟨a, rfl, hμ⟩ := r1
    split at e
    · rename_i kvs es
      split at e
      · rename_i ns en
        split at e
        · rename_i hl
          cases e
          obtain ⟨a', h1, vs, ks, ⟨h2, h3⟩, h4⟩ := rs.at_ _ _ es
          rw [hμ] at h1; cases h1
          rw [h3] at en
          have hk := ints_keys en
          have hlen : (ks.zip vs).map (·.1) = ks := by
            have e1 := congrArg List.length h3
            have e2 := h4.length
            simp at e1 e2
            rw [List.map_fst_zip]; omega
          refine ⟨a, ks.zip vs, ns, rfl, .of h2, by rw [hlen, hk], hl, fun ys p hp hs hn => ?_⟩
          rw [perm_sorted hp hs]
          exact q _ _ (.upd hn) (rep_new_lst rs hn (by
            have : ∀ ms : List Int, RepAll X.K X.mg μ H (ms.map .int) (ms.map V.int) := fun ms => by
              induction ms with
              | nil => exact .nil
              | cons m ms ih => exact .cons (rep_int m) ih
            exact this _))
        · cases e
      · cases e
    · cases e
  · cases e
end
/-! ### keyword-only parameters -/
/-- a def with n parameters and one by keyword only, whose default is an int -/
def FnKw (P : Program) (w : World) (K : PySem.W.Frag) (mg : Str → Option Value) (base : Heap) (k : Nat) (f : Addr) (ps : List Str) (n : Nat) (kn : Str) (dv : Int) (m : MF) : Prop :=
  ∃ fd, FnOk P w K mg base (L2.CX P w) k f fd ps (spD K mg ps.length m) ∧ PySem.W.keepIn K (.ref f) = true ∧ (∃ ds, Vals [V.int dv] ds ∧ Binds K fd ps ds) ∧ KBn K fd ps n [kn] (fun us ws => us ++ ws) (fun vs zs => vs ++ zs)
def eCallD (n : Nat) (d : D) (m : MF) (r : MA) : ME := fun env S => (r env S).bind fun ds S => chk n m (ds ++ [d]) S
def eCallK (n k : Nat) (m : MF) (r rk : MA) : ME := fun env S => (r env S).bind fun ds S => (rk env S).bind fun zs S => if ds.length = k then chk n m (ds ++ zs) S else .stuck
section
variable {X : Cx} {W : WX} {k n : Nat} {f : Addr} {ps : List Str} {m : MF} {x kn : Str} {dv : Int} {p pos kpos : Pos} {e ek : Expr} {es : List Expr} {r : MA} {mk : ME}
theorem repAll_one {K : PySem.W.Frag} {mg : Str → Option Value} {μ : Mu} {H : Hp} (i : Int) : RepAll K mg μ H [.int i] [.int i] := .cons (rep_int i) .nil
theorem qE_callD (F : FnKw X.prog X.w X.K X.mg X.base k f ps n kn dv m) (hr : Room k X.A) (hm : X.mg x = some (.ref f)) (tk : Takes X W) (ha : PA X (e :: es) (tAs X W r)) (hg : Gl X x := by rfl) (hdb : (x == ("__debug__" : Str)) = false := by decide)
    (he : starEach (e :: es) X.env = (false, eval e X.env) :: starEach es X.env := by rfl) (hpl : (backTo pos (starEach es X.env)).any (·.1) = false := by rfl) :
    PE X (.Call (.Name x p) (e :: es) [] pos) (tE X W (eCallD ps.length (.int dv) m r)) := by
  obtain ⟨fd, ok, kp, ⟨ds, hv, b⟩, _⟩ := F
  refine pe_to (pe_callSD ok hr hg hm kp b hv (passAt tk) ha hdb he hpl) fun σ H Q ⟨env, S, μ, rl, o⟩ => ?_
  exact ⟨env, S, μ, rl, (Out.bind o).mono fun vs H1 ⟨μ1, S1, ds, st, rs, rd, o1⟩ => ⟨ds ++ [.int dv], S1, μ1, rs, rd.append (repAll_one dv), out_sig o1⟩⟩
theorem run_fnNS {pins : List (Addr × Obj)} {σ : L2.St} {H : Hp} {s : Shared} {Q : VK} {us ws : List Value} {vs zs : List V} {ks : List Str} {sp : Sp} {CX : CXT} {E : XK} {fd : FuncData} {g : List Value → List Value → List Value} {gV : List V → List V → List V} (F : FnOk X.prog X.w X.K X.mg X.base CX k f fd ps sp) (hr : Room k X.A) (hb : KBn X.K fd ps n ks g gV) (hx : PassesAt CX X σ E)
    (I : L2.Inv X pins σ H s) (r : Vals vs us) (rz : Vals zs ws) (l1 : vs.length = n) (l2 : zs.length = ks.length) (h : sp (gV vs zs) H Q E) : wpAny (model X.prog X.w) X.A (call (.ref f) us (ks.zip ws)) (EP X pins σ Q) X.xe s := by
  have r2 := hb.rel r rz
  refine wpAny_call (codeAny_mono (F.run X.A X.stack s H ⟨us, ks.zip ws⟩ (g us ws) (gV vs zs) Q E hr I.env0 (hb.to s us ws I.kIn (r.length.symm.trans l1) (rz.length.symm.trans l2)) r2 h) fun r s' hq => ?_)
  cases r with
  | error e => exact hx pins H s e s' I hq
  | ok fl =>
    cases fl with
    | ret u => exact I.after hq
    | next => exact False.elim hq
    | brk => exact False.elim hq
    | cont => exact False.elim hq
theorem qE_callK (F : FnKw X.prog X.w X.K X.mg X.base k f ps n kn dv m) (hr : Room k X.A) (hm : X.mg x = some (.ref f)) (tk : Takes X W) (ha : PA X (e :: es) (tAs X W r)) (hkv : PE X ek (tE X W mk)) (hg : Gl X x := by rfl)
    (hall : (backToKw pos (keywordEach [⟨some kn, ek, kpos⟩] X.env)).all (·.1.isSome) = true := by rfl) (hks : (backToKw pos (keywordEach [⟨some kn, ek, kpos⟩] X.env)).filterMap (·.1) = [kn] := by rfl)
    (hdb : (x == ("__debug__" : Str)) = false := by decide) (he : starEach (e :: es) X.env = (false, eval e X.env) :: starEach es X.env := by rfl)
    (hpl : ((backTo pos (starEach (e :: es) X.env)).any (·.1) || (backToKw pos (keywordEach [⟨some kn, ek, kpos⟩] X.env)).any (·.1.isNone)) = false := by rfl) :
    PE X (.Call (.Name x p) (e :: es) [⟨some kn, ek, kpos⟩] pos) (tE X W (eCallK ps.length n m r (aCons mk aNil))) := by
  obtain ⟨fd, ok, kp, _, kb⟩ := F
  refine ⟨fun pins s σ H Q I ⟨env, S, μ, rl, o⟩ => ?_⟩
  refine wpAny_Call_Name_kw (ld_glob I hg hm ?_ hdb)
  refine PySem.W.callWith_KW (h₀ := X.base) I.ok.mod.kin kp hall (thn (ha.run pos pins s σ H _ I ⟨env, S, μ, rl, Out.bind o⟩) fun us s1 ⟨vs, H1, I1, r1, μ1, S1, ds, st, rs, rd, o1⟩ => ?_) hpl he
  refine thn ((pk_cons hkv pk_nil).run pos pins s1 σ H1 (fun zs H2 => ∃ μ2 S2 d z, zs = [z] ∧ Step μ1 H1 μ2 H2 ∧ RelS X.K X.mg μ2 H2 S2 ∧ Rep X.K X.mg μ2 H2 d z ∧ Out X.K X.mg W σ μ2 H2 (fun μ H a b => Rep X.K X.mg μ H a b) Q (if ds.length = n then chk ps.length m (ds ++ [d]) S2 else .stuck)) I1 ?_) fun ws s2 ⟨zs, H2, I2, rz, μ2, S2, d, z, ez, st2, rs2, rd2, o2⟩ => ⟨I2.kIn, ?_⟩
  · have o1' := o1
    unfold aCons aNil at o1'
    refine ⟨env, S1, μ1, ⟨rl.env.step st, rs⟩, ?_⟩
    have e0 : ((mk env S1).bind fun d S => (Res.ok [] S : Res (List D)).bind fun ds S => .ok (d :: ds) S).bind (fun zs S => if ds.length = n then chk ps.length m (ds ++ zs) S else .stuck) = (mk env S1).bind fun d S => if ds.length = n then chk ps.length m (ds ++ [d]) S else .stuck := by
      cases mk env S1 <;> rfl
    rw [e0] at o1'
    exact (Out.bind o1').mono fun z H2 ⟨μ2, S2, d, st2, rs2, rd2, o2⟩ => ⟨μ2, S2, d, z, rfl, st2, rs2, rd2, o2⟩
  · rw [hks]
    subst ez
    split at o2
    · rename_i hl
      exact run_fnNS ok hr kb (passAt tk σ) I2 r1 rz (by rw [← rd.length]; exact hl) rfl ⟨ds ++ [d], S2, μ2, rs2, (RepAll.step st2 _ _ rd).append (.cons rd2 .nil), out_sig o2⟩
    · exact o2.elim
end
theorem fn_okK {P : Program} {w : World} {K : PySem.W.Frag} {mg : Str → Option Value} {base : Heap} {x qual : Str} {st : Stmt} {f : Addr} {N ps : List Str} {k n a : Nat} {m : MS} {kn : Str} {dv : Int} (F : ∃ fd, FunD K x qual (defArgs st) (defBody st) (defScope st) [] [(kn, V.int dv)] f fd) (S : FnScope N ps (defScope st)) (hn : N.length - ps.length = n) (ha : a + 1 = ps.length)
    (hb : ∀ (D : Addr) (doc pm : Value) (an : Option Addr) (cdv ct : Value) (us ks : List Value), us.length = a → ks.length = 1 →
      KwChain D ([kn].zip ks) (bindArgs (PySem.W.fnOf x qual (defArgs st) (defBody st) (defScope st) .none (.ref D) doc pm an cdv ct) ⟨us, []⟩) (ps.zip (us ++ ks)))
    (hk : ∀ (D : Addr) (doc pm : Value) (an : Option Addr) (cdv ct : Value) (us ws : List Value), us.length = a → ws.length = 1 →
      bindArgs (PySem.W.fnOf x qual (defArgs st) (defBody st) (defScope st) .none (.ref D) doc pm an cdv ct) ⟨us, [kn].zip ws⟩ = pure (ps.zip (us ++ ws)))
    (hbody : ∀ (cdv : Value) (A : Around) (outer : List Env) (s : Shared) (H : Hp) (E : XK), PassesOwn (model P w) (cxOf (L2.CX P w) P w K mg base N qual (defScope st) f cdv A outer s H E).A (cxOf (L2.CX P w) P w K mg base N qual (defScope st) f cdv A outer s H E).env (cxOf (L2.CX P w) P w K mg base N qual (defScope st) f cdv A outer s H E).xe →
      Room k (cxOf (L2.CX P w) P w K mg base N qual (defScope st) f cdv A outer s H E).A → ∀ W, Takes (cxOf (L2.CX P w) P w K mg base N qual (defScope st) f cdv A outer s H E) W → PSs (cxOf (L2.CX P w) P w K mg base N qual (defScope st) f cdv A outer s H E) (defBody st) (tS (cxOf (L2.CX P w) P w K mg base N qual (defScope st) f cdv A outer s H E) W m)) : FnKw P w K mg base (k + 1) f ps a kn dv (bodyM n m) := by
  obtain ⟨fd, F⟩ := F
  have b := F.binds0 a (by simp) (by simp; exact ha) hb
  obtain ⟨mv, kb⟩ := F.kbinds0 a [kn] [] (fun us _ ws => us ++ ws) (by simp) (by simp) (fun r1 _ r3 => r1.append r3) fun D doc pm an cdv ct us mv ws l1 l2 l3 => by
    have : mv = [] := List.length_eq_zero_iff.mp l2
    subst this
    exact hk D doc pm an cdv ct us ws l1 l3
  refine ⟨fd, F.ok S (fun vs H Q E h => spD_len h) (fun cdv A outer s H vs Q E hr h => ?_), F.kp, b, kb⟩
  refine ⟨_, hbody cdv A outer s H E (passes_of rfl) hr (fun cls d _ H => E cls d H) (takes_of rfl rfl rfl rfl), ?_⟩
  obtain ⟨ds, So, μ, rs, ra, o⟩ := h
  unfold chk at o
  split at o
  · rename_i hl
    have e0 : n = N.length - ds.length := by rw [hl]; exact hn.symm
    refine ⟨ds.map some ++ List.replicate n none, So, μ, ⟨by rw [e0]; exact relE_start ra, rs⟩, ?_⟩
    unfold bodyM at o
    cases hm : m (ds.map some ++ List.replicate n none) So with
    | next e S1 => rw [hm] at o; exact fun μ' H' σ' st re rs' => o μ' H' .non st rs' rep_none
    | ret d S1 => rw [hm] at o; exact fun μ' H' v st rs' r => o μ' H' v st rs' r
    | exc e v S1 => rw [hm] at o; exact fun μ' H' σ' c d st re rs' r => o μ' H' c d st rs' r
    | brk e S1 => rw [hm] at o; exact o.elim
    | cont e S1 => rw [hm] at o; exact o.elim
    | stuck => rw [hm] at o; exact o
  · exact o.elim
/-! ### a, b, c = x, y, z -/
def sPar3 (i j l : Nat) (r : MA) : MS := fun env S => (r env S).rs env fun ds S => match ds with
  | [a, b, c] => .next (((env.set i (some a)).set j (some b)).set l (some c)) S
  | _ => .stuck
section
variable {X : Cx} {W : WX} {pos : Pos}
theorem sS_par3 {i j l : Nat} {x y z : Str} {e1 e2 e3 : Expr} {r : MA} {px py pz pt : Pos} {kt k2 pt2} (hc : X.calm = true) (hN : X.N.Nodup) (hi : X.N[i]? = some x) (hj : X.N[j]? = some y) (hl : X.N[l]? = some z) (hij : i ≠ j) (hil : i ≠ l) (hjl : j ≠ l)
    (hx : X.env.scope.names.lookup x = some .local) (hy : X.env.scope.names.lookup y = some .local) (hz : X.env.scope.names.lookup z = some .local) (ha : PA X [e1, e2, e3] (tAs X W r))
    (hw : swappedStores [.Tuple [.Name x px, .Name y py, .Name z pz] kt pt] (.Tuple [e1, e2, e3] k2 pt2) X.env = pure (some [x, y, z]) := by rfl)
    (hs : swapsWithSole [.Tuple [.Name x px, .Name y py, .Name z pz] kt pt] (.Tuple [e1, e2, e3] k2 pt2) pos.line X.env = pure false := by rfl) :
    PS X (.Assign [.Tuple [.Name x px, .Name y py, .Name z pz] kt pt] (.Tuple [e1, e2, e3] k2 pt2) pos) (tS X W (sPar3 i j l r)) :=
  ps_to (ps_par3 hc hN hi hj hl hij hil hjl hx hy hz ha hw hs) fun D σ H ⟨env, S, μ, rl, o⟩ => ⟨env, S, μ, rl, (OutS.rs rl.env o).mono fun vs H1 ⟨μ1, S1, ds, st, rs, r, o1⟩ => by
    match ds, o1 with
    | [a, b, c], o1 =>
      unfold RepAll at r
      obtain ⟨v, q, rfl, r1, r2⟩ := r
      unfold RepAll at r2
      obtain ⟨w, q, rfl, r2, r3⟩ := r2
      unfold RepAll at r3
      obtain ⟨u, q, rfl, r3, r4⟩ := r3
      unfold RepAll at r4
      subst r4
      exact ⟨v, w, u, rfl, o1 μ1 H1 _ .refl ((((rl.env.step st).set r1).set r2).set r3) rs⟩⟩
end
/-- xs + ys, a list that is changed later -/
def eCatM (ma mb : ME) : ME := fun env S => (ma env S).bind fun a S => (mb env S).bind fun b S => match view0 S a, view0 S b with
  | .lst xs, .lst ys => if xs.length + ys.length ≤ 1000000 then .ok (.loc S.length) (S ++ [.lst (xs ++ ys)]) else .stuck
  | _, _ => .stuck
theorem sE_catM {X : Cx} {W : WX} {a b : Expr} {ma mb : ME} {pos : Pos} (ha : PE X a (tE X W ma)) (hb : PE X b (tE X W mb)) : PE X (.BinOp a .Add b pos) (tE X W (eCatM ma mb)) :=
  pe_to (pe_op op_cat ha hb) fun σ H Q ⟨env, S, μ, rl, o⟩ => by
    refine ⟨env, S, μ, rl, (Out.bind o).mono fun x H1 ⟨μ1, S1, da, st, rs, ra, o1⟩ => ?_⟩
    refine ⟨env, S1, μ1, ⟨rl.env.step st, rs⟩, (Out.bind o1).mono fun y H2 ⟨μ2, S2, db, st2, rs2, rb, o2⟩ => ?_⟩
    have ra2 := rs2.view0 (Rep.step st2 _ _ ra)
    have rb2 := rs2.view0 rb
    split at o2
    · rename_i xs ys e1 e2
      rw [e1] at ra2
      rw [e2] at rb2
      split at o2
      · rename_i hz
        obtain ⟨a, vs, ea, hA, la⟩ := ra2
        obtain ⟨b, us, eb, hB, lb⟩ := rb2
        refine ⟨a, b, vs, us, ea, eb, hA, hB, by rw [← la.length, ← lb.length]; exact line_big hz, fun p hp => ?_⟩
        obtain ⟨q1, q2, q3⟩ := lst_new rs2 hp (la.append lb)
        exact o2 _ _ _ q1 q2 q3
      · exact o2.elim
    · exact o2.elim
end DL

set_option Elab.async false
set_option linter.all false
set_option maxRecDepth 100000
set_option maxHeartbeats 4000000
/-! DL35: lambdas as values: made, kept in lists, handed on in the frame that made them. -/
namespace DL
open PySem PySem.Spec PyProof.Rows L2 LamX
/-- a lambda's object, with defaults -/
abbrev cloObj (name qual : Str) (params : Arguments) (body : Expr) (scope : Scope) (cl : List (Str × Addr)) (pm cdv ct dV : Value) : Obj :=
  { cls := .type "function", data := .func { PySem.W.kla_fn name qual params body scope cl pm cdv ct with defaults := dV } }
section
variable {M : Model} {A : Around} {E : Value → Shared → Prop} {s : Shared} {name qual : Str} {params : Arguments} {body : Expr} {scope : Scope} {env : Env} {c P : Addr} {ps : Array Value} {pos : Pos} {firstLine : Nat} {mg : Str → Option Value}
  {clos : List (Str × Addr)} {Q : Value → Shared → Prop} {dV : Value}
/-- behind the closure's tuple -/
def tailOf (name qual : Str) (params : Arguments) (body : Expr) (scope : Scope) (env : Env) (clos : List (Str × Addr)) (dV : Value) (pos : Pos) (firstLine : Nat) (ctv : Value) : Sem Value := do
  let code ← functionCode env pos firstLine name qual params scope (.expr body)
  let bi ← builtinsFor mainGlobals env.builtins
  let pm ← nsGet mainGlobals "__name__"
  let doc ← (pure Value.none : Sem Value)
  newObj (.type "function") (.func { name := name, qualname := qual, params := params, body := .expr body, scope := scope, globals := mainGlobals, closure := clos, defaults := dV, kwdefaults := .none, doc := doc, pyModule := pm.getD .none, annotations := none, code := code, closureTuple := ctv, builtins := bi })
/-- the tail of the making, the code object new -/
theorem mk_fresh (hcl : closureFor scope env = pure clos) (hge0 : env.globals = mainGlobals) (hg : s.heap.Ns mainGlobals mg) (hcode : env.code = .ref c) (C : PySem.W.CodeHd s.heap c P) (hP : s.heap.get? P = some (PySem.W.tabObj ps)) (ht : TriplesOk ps.toList)
    (hnf : codeAmong pos ps.toList = none) (hgP : mainGlobals ≠ P) (hb : s.heap.BuiltinsAt mg P)
    (h : ∀ c' ctv h' tk, Heap.ExtBut P s.heap h' → s.heap.objs.size ≤ c' → c' < h'.objs.size → h'.CodeRec (.ref c') qual → h'.get? P = some (PySem.W.tabObj (ps ++ #[rawInt pos.line, rawInt pos.col, .ref c'])) →
      Q (.ref h'.objs.size) { s with heap := h'.push (cloObj name qual params body scope clos ((mg "__name__").getD .none) (.ref c') ctv dV), toks := tk }) :
    wpAny M A (makeTail name qual params (.expr body) scope env dV .none none pos firstLine) Q E s := by
  obtain ⟨bm, ob, e1, e2, _, e4, e5, e6, e7, e8⟩ := hb
  unfold makeTail
  rw [hcl, hge0]
  refine wpAny_bind (wpAny_pure ?_)
  have go : ∀ (ctv : Value) (h0 : Heap), (∀ b o, s.heap.get? b = some o → h0.get? b = some o) → s.heap.objs.size ≤ h0.objs.size → wpAny M A (tailOf name qual params body scope env clos dV pos firstLine ctv) Q E { s with heap := h0 } := by
    intro ctv h0 k0 sz0
    have hgP' : h0.get? P = some (PySem.W.tabObj ps) := k0 _ _ hP
    refine wpAny_bind (wpAny_functionCodeX hcode ((C.keeps k0).code hgP' ht) ((C.keeps k0).tab hgP') hnf fun c' h' tk hx hge hlt _ hrec htb _ => ?_)
    have hg' := (hg.keeps k0).extBut hx hgP
    have hx' : Heap.ExtBut P s.heap h' := fun b o hb' e => hx b o hb' (k0 b o e)
    refine wpAny_bind (wpAny_builtinsFor hg' e1 e2 (hx' _ _ e4 e5) e6 e7 e8 ?_)
    refine wpAny_bind (wpAny_nsGet hg' ?_)
    refine wpAny_bind (wpAny_pure ?_)
    exact wpAny_newObj_type (h c' ctv h' tk hx' (Nat.le_trans sz0 hge) hlt hrec htb.2) (by size_fits)
  cases clos with
  | nil =>
    simp only [List.isEmpty_nil, if_true]
    exact wpAny_bind (wpAny_pure (go .none s.heap (fun _ _ e => e) (Nat.le_refl _)))
  | cons q r =>
    simp only [List.isEmpty_cons, Bool.false_eq_true, if_false]
    exact wpAny_bind (wpAny_newTextTuple (go _ _ (fun b o e => Heap.get?_push_of_some _ e) (by rw [Heap.size_push]; omega)))
/-- .. the code object found -/
theorem mk_hit {cv : Value} (hcl : closureFor scope env = pure clos) (hge0 : env.globals = mainGlobals) (hg : s.heap.Ns mainGlobals mg) (hcode : env.code = .ref c) (C : PySem.W.CodeHd s.heap c P) (hP : s.heap.get? P = some (PySem.W.tabObj ps)) (ht : TriplesOk ps.toList)
    (hf : codeAmong pos ps.toList = some cv) (hb : s.heap.BuiltinsAt mg P)
    (h : ∀ (ctv : Value) (h' : Heap) (tk : Tok), (∀ b o, s.heap.get? b = some o → h'.get? b = some o) → s.heap.objs.size ≤ h'.objs.size →
      Q (.ref h'.objs.size) { s with heap := h'.push (cloObj name qual params body scope clos ((mg "__name__").getD .none) cv ctv dV), toks := tk }) :
    wpAny M A (makeTail name qual params (.expr body) scope env dV .none none pos firstLine) Q E s := by
  obtain ⟨bm, ob, e1, e2, _, e4, e5, e6, e7, e8⟩ := hb
  unfold makeTail
  rw [hcl, hge0]
  refine wpAny_bind (wpAny_pure ?_)
  have go : ∀ (ctv : Value) (h0 : Heap), (∀ b o, s.heap.get? b = some o → h0.get? b = some o) → s.heap.objs.size ≤ h0.objs.size → wpAny M A (tailOf name qual params body scope env clos dV pos firstLine ctv) Q E { s with heap := h0 } := by
    intro ctv h0 k0 sz0
    refine wpAny_bind (wpAny_functionCode_hit hcode ((C.keeps k0).code (k0 _ _ hP) ht) hf ?_)
    refine wpAny_bind (wpAny_builtinsFor (hg.keeps k0) e1 e2 (k0 _ _ e5) e6 e7 e8 ?_)
    refine wpAny_bind (wpAny_nsGet (hg.keeps k0) ?_)
    refine wpAny_bind (wpAny_pure ?_)
    exact wpAny_newObj_type (h ctv h0 s.toks k0 sz0) (by size_fits)
  cases clos with
  | nil =>
    simp only [List.isEmpty_nil, if_true]
    exact wpAny_bind (wpAny_pure (go .none s.heap (fun _ _ e => e) (Nat.le_refl _)))
  | cons q r =>
    simp only [List.isEmpty_cons, Bool.false_eq_true, if_false]
    exact wpAny_bind (wpAny_newTextTuple (go _ _ (fun b o e => Heap.get?_push_of_some _ e) (by rw [Heap.size_push]; omega)))
end
end DL
namespace DL
open PySem PySem.Spec PyProof.Rows L2 LamX
section
variable {M : Model} {A : Around} {E : Value → Shared → Prop} {s : Shared}
/-- a call without arguments of what has one parameter with a default -/
theorem bind_dflt {fd : FuncData} {a : Arg} {ds : List Expr} {T : Addr} {o : Obj} {u : Value} {n : Nat} {Q : List (Str × Value) → Shared → Prop} (hp : fd.params = ⟨[], [a], none, [], [], none, ds⟩) (hT : fd.defaults = .ref T) (ho : s.heap.get? T = some o) (hd : o.data = .seq #[u] n) (h : Q [(a.arg, u)] s) :
    wpAny M A (bindArgs fd ⟨[], []⟩) Q E s := by
  unfold bindArgs
  rw [hp, hT]
  simp only [List.map_nil, List.map_cons, List.nil_append, List.length_cons, List.length_nil, List.zip_nil_right, List.forIn_nil, pure_bind]
  refine wpAny_bind (wpAny_seqItems ho hd ?_)
  simp
  exact wpAny_pure h
end
end DL
namespace DL
open PySem PySem.Spec PyProof.Rows L2 LamX
/-- what a lambda of X without parameters is; with one that has a default -/
def cloF0 (X : Cx) (params : Arguments) (body : Expr) (scope : Scope) : Value → Addr → Value → Value → Obj := fun pm c' ctv _ => cloObj "<lambda>" (X.env.qual ++ "<lambda>") params body scope (cloFrom X.env.cells scope.names []) pm (.ref c') ctv .none
def cloF1 (X : Cx) (params : Arguments) (body : Expr) (scope : Scope) : Value → Addr → Value → Value → Obj := fun pm c' ctv dv => cloObj "<lambda>" (X.env.qual ++ "<lambda>") params body scope (cloFrom X.env.cells scope.names []) pm (.ref c') ctv dv
theorem codeO_ntb {c : Addr} {q : Str} : NTb (CodeO c q) := fun _ z => by unfold CodeO at z; cases z
section
variable {X : Cx} {pins : List (Addr × Obj)} {σ : L2.St} {H : Hp} {s : Shared}
/-- the function object is laid, known from now on -/
theorem clo_tail {T : List (Addr × Str)} {c P : Addr} {params : Arguments} {body : Expr} {scope : Scope} {pos : Pos} {dV : Value} {E : Value → Shared → Prop} {Q : Value → Shared → Prop} (I : Inv X pins σ H s) (TB : TabB X.base X.mg c P) (hcode : X.env.code = .ref c)
    (hm : (P, X.env.qual ++ "<lambda>") ∈ T) (hu : ∀ p ∈ T, p.1 = P → p.2 = X.env.qual ++ "<lambda>") (hT : Tabs T H) (hfree : ∀ y ∈ scope.names, y.2 = .free → ∃ c, X.env.cells.lookup y.1 = some c)
    (h : ∀ (f c' : Addr) (pm ctv : Value) (H1 : Hp) (s' : Shared), Inv X pins σ H1 s' → ExtN H H1 → Tabs T H1 → H f = none → H1 f = some (FunO f (cloObj "<lambda>" (X.env.qual ++ "<lambda>") params body scope (cloFrom X.env.cells scope.names []) pm (.ref c') ctv dV)) →
      (H c' = none ∨ ∃ q, H c' = some (CodeO c' q)) → H1 c' = some (CodeO c' (X.env.qual ++ "<lambda>")) → Q (.ref f) s') :
    wpAny (model X.prog X.w) X.A (makeTail "<lambda>" (X.env.qual ++ "<lambda>") params (.expr body) scope X.env dV .none none pos pos.line) Q E s := by
  obtain ⟨ps, hP, ht, ha⟩ := hT _ hm
  have bP : s.heap.BuiltinsAt X.mg P := TB.bm.keeps I.bk
  have hP' : s.heap.get? P = some { cls := .none, data := .fields ps } := I.hok P _ hP
  have lay : ∀ (c' : Addr) (ctv : Value) (h' : Heap) (tk : Nat) (H1 : Hp), Inv X pins σ H1 { s with heap := h', toks := tk } → ExtN H H1 → Tabs T H1 → s.heap.objs.size ≤ h'.objs.size → (H c' = none ∨ ∃ q, H c' = some (CodeO c' q)) → H1 c' = some (CodeO c' (X.env.qual ++ "<lambda>")) →
      Q (.ref h'.objs.size) { s with heap := h'.push (cloObj "<lambda>" (X.env.qual ++ "<lambda>") params body scope (cloFrom X.env.cells scope.names []) ((X.mg "__name__").getD .none) (.ref c') ctv dV), toks := tk } := by
    intro c' ctv h' tk H1 I1 eN T1 hsz hc hco
    have hn : H1 h'.objs.size = none := I1.hok.fresh (Nat.le_refl _)
    have I2 := I1.laid (t' := tk) (a := h'.objs.size) (o := FunO h'.objs.size (cloObj "<lambda>" (X.env.qual ++ "<lambda>") params body scope (cloFrom X.env.cells scope.names []) ((X.mg "__name__").getD .none) (.ref c') ctv dV))
      (h' := h'.push (cloObj "<lambda>" (X.env.qual ++ "<lambda>") params body scope (cloFrom X.env.cells scope.names []) ((X.mg "__name__").getD .none) (.ref c') ctv dV)) (fun b u e => Heap.get?_push_of_some _ e) (Nat.le_refl _)
      (by
        have e : (h'.push (cloObj "<lambda>" (X.env.qual ++ "<lambda>") params body scope (cloFrom X.env.cells scope.names []) ((X.mg "__name__").getD .none) (.ref c') ctv dV)).get? h'.objs.size = some (cloObj "<lambda>" (X.env.qual ++ "<lambda>") params body scope (cloFrom X.env.cells scope.names []) ((X.mg "__name__").getD .none) (.ref c') ctv dV) := Heap.get?_push_size _ rfl
        exact ⟨e, ⟨_, e⟩, fun h1 h2 p k => k _ p⟩)
    have up : ∀ b o, H1 b = some o → upd H1 h'.objs.size (FunO h'.objs.size (cloObj "<lambda>" (X.env.qual ++ "<lambda>") params body scope (cloFrom X.env.cells scope.names []) ((X.mg "__name__").getD .none) (.ref c') ctv dV)) b = some o := fun b o e => by rw [upd_ne (ne_of_none e hn)]; exact e
    exact h _ c' _ ctv _ _ I2 (eN.trans (ExtN.of up)) (T1.ext up) (I.hok.fresh hsz) upd_same hc (up _ _ hco)
  cases hc : codeAmong pos ps.toList with
  | none =>
    refine mk_fresh (mg := X.mg) (c := c) (P := P) (ps := ps) (closure_ok hfree) I.ok.glob (I.mod.glob.keeps I.bk) hcode (TB.code.keeps I.bk) hP' ht hc TB.gP bP fun c' ctv h' tk hx hge hlt hrec htb => ?_
    obtain ⟨c2, oc, vs, t, e2, hoc, hd, hv⟩ := hrec
    cases e2
    have nC : H c' = none := I.hok.fresh hge
    have I1 := inv_table (t' := tk) (more := #[rawInt pos.line, rawInt pos.col, .ref c']) (h' := h') I hP (fun b o hb e => hx b o hb e) htb hge ⟨oc, vs, t, hoc, hd, hv⟩
    have hE : ExtN H (upd (upd H P (.tbl (ps ++ #[rawInt pos.line, rawInt pos.col, .ref c']))) c' (CodeO c' (X.env.qual ++ "<lambda>"))) := fun b o e n => by
      rw [upd_ne (ne_of_none e nC), upd_ne (fun z => n ps (Option.some.inj (e.symm.trans (by rw [z]; exact hP))))]
      exact e
    have eL : (ps ++ #[rawInt pos.line, rawInt pos.col, .ref c']).toList = ps.toList ++ [rawInt pos.line, rawInt pos.col, .ref c'] := by simp
    refine lay c' ctv h' tk _ I1 hE (fun p hp => ?_) (Nat.le_trans hge (Nat.le_of_lt hlt)) (.inl nC) upd_same
    by_cases hb : p.1 = P
    · rw [hu p hp hb, hb]
      refine ⟨_, by rw [upd_ne (ne_of_none hP nC), upd_same], by rw [eL]; exact PySem.TriplesOk_snoc _ _ _ _ ht, fun p' cv hcv => ?_⟩
      rw [eL] at hcv
      rcases among_app _ ht hcv with z | z
      · obtain ⟨c0, e1, e2⟩ := ha p' cv z
        exact ⟨c0, e1, hE _ _ e2 codeO_ne⟩
      · exact ⟨c', z, upd_same⟩
    · obtain ⟨ps', a1, a2, a3⟩ := hT p hp
      refine ⟨ps', by rw [upd_ne (ne_of_none a1 nC), upd_ne hb]; exact a1, a2, fun p' cv hcv => ?_⟩
      obtain ⟨c0, e1, e2⟩ := a3 p' cv hcv
      exact ⟨c0, e1, hE _ _ e2 codeO_ne⟩
  | some cv =>
    obtain ⟨c', e, hco⟩ := ha pos cv hc
    subst e
    refine mk_hit (mg := X.mg) (c := c) (P := P) (ps := ps) (closure_ok hfree) I.ok.glob (I.mod.glob.keeps I.bk) hcode (TB.code.keeps I.bk) hP' ht hc bP fun ctv h' tk hx hsz => ?_
    have I1 : Inv X pins σ H { s with heap := h', toks := tk } := I.kept hx
    exact lay c' ctv h' tk H I1 (ExtN.refl H) hT hsz (.inr ⟨_, hco⟩) hco
end
def eClo (k : Nat) (b : Bool) (q : Str) (F : Value → Addr → Value → Value → Obj) : ME := fun _ S => .ok (.clo k b q F) S
section
variable {X : Cx} {W : WX}
theorem ncode_h {K : PySem.W.Frag} {mg : Str → Option Value} {μ : Mu} {H : Hp} {S : Sto} (rs : RelS K mg μ H S) {c c' : Addr} {q : Str} (e : H c' = some (CodeO c q)) : c' ∉ μ := fun z => by
  rcases z with z | z
  · obtain ⟨l, hl, e2⟩ := List.getElem_of_mem z
    exact rs.ncode (l := l) (by rw [List.getElem?_eq_getElem hl, e2]) e
  · obtain ⟨u, h1, h2⟩ := rs.hid _ z
    rw [h1] at e
    exact h2.nc c q (Option.some.inj e)
/-- what was made, told -/
theorem clo_told {μ : Mu} {H H1 : Hp} {S : Sto} {f c' : Addr} {k : Nat} {q : Str} {F : Value → Addr → Value → Value → Obj} {pm ctv dv : Value} (rs : RelS X.K X.mg μ H S) (eN : ExtN H H1) (T1 : Tabs (tbs X.K) H1) (hf : H f = none) (h1 : H1 f = some (FunO f (F pm c' ctv dv)))
    (hc : H c' = none ∨ ∃ q, H c' = some (CodeO c' q)) (h2 : H1 c' = some (CodeO c' q)) {b : Bool} (hd : DfO b H1 μ dv) : Step μ H μ H1 ∧ RelS X.K X.mg μ H1 S ∧ Rep X.K X.mg μ H1 (.clo k b q F) (.ref f) := by
  obtain ⟨st, rs1⟩ := step_extn rs eN T1
  refine ⟨st, rs1, ?_⟩
  unfold Rep
  refine ⟨f, c', pm, ctv, dv, rfl, ⟨h1, rs.fresh hf⟩, ⟨h2, ?_⟩, hd⟩
  rcases hc with hc | ⟨_, hc⟩
  · exact rs.fresh hc
  · exact ncode_h rs hc
/-- a lambda without parameters, as a value -/
theorem sE_clo0 {p : Str × Option Str} {params : Arguments} {body : Expr} {scope : Scope} {pos : Pos} {k : Nat} {q : Str} {F : Value → Addr → Value → Value → Obj} (lh : LamHere X p) (L : LamS X.env.scope scope) (hq : q = X.env.qual ++ "<lambda>") (hF : F = cloF0 X params body scope)
    (hdef : defaultsOf params X.env = ([], []) := by rfl) (hpar : params.kwonlyargs = [] := by rfl) : PE X (.Lambda params body scope pos) (tE X W (eClo k false q F)) := by
  subst hq hF
  refine ⟨fun pins s σ H Q I h => ?_⟩
  obtain ⟨env, S, μ, rl, o⟩ := h
  rw [arm_eval_Lambda, hdef]
  show wpAny _ _ (do let dv ← evalAll []; let kdv ← holding dv (evalAllOpt []); makeFunction "<lambda>" (X.env.qual ++ "<lambda>") params (.expr body) scope X.env dv kdv [] pos pos.line) _ _ s
  refine wpAny_bind (wpAny_pure (wpAny_bind (wpAny_holding (wpAny_pure ?_))))
  rw [makeFunction_eq]
  simp only [List.zip_nil_right, List.filterMap_nil, List.isEmpty_nil, if_true, pure_bind]
  refine clo_tail I lh.tb lh.code lh.mem lh.uniq rl.sto.tab (L.has I.ok) fun f c' pm ctv H1 s' I1 eN T1 hf h1 hc h2 => ?_
  obtain ⟨st, rs1, r⟩ := clo_told (k := k) (F := cloF0 X params body scope) (dv := .none) (b := false) rl.sto eN T1 hf h1 hc h2 nofun
  exact ⟨.ref f, H1, I1, rfl, o μ H1 (.ref f) st rs1 r⟩
/-- a lambda with one parameter that has the default 0 -/
theorem sE_clo1 {p : Str × Option Str} {params : Arguments} {body : Expr} {scope : Scope} {x : Str} {pos : Pos} {k : Nat} {q : Str} {F : Value → Addr → Value → Value → Obj} {j : Nat} {pz : Pos} (lh : LamHere X p) (L : LamS1 X.env.scope scope x) (hq : q = X.env.qual ++ "<lambda>") (hF : F = cloF1 X params body scope)
    (hdef : defaultsOf params X.env = ([eval (.Constant (.int 0) j pz) X.env], []) := by rfl) (hpar : params.kwonlyargs = [] := by rfl) : PE X (.Lambda params body scope pos) (tE X W (eClo k true q F)) := by
  subst hq hF
  refine ⟨fun pins s σ H Q I h => ?_⟩
  obtain ⟨env, S, μ, rl, o⟩ := h
  rw [arm_eval_Lambda, hdef]
  show wpAny _ _ (do let dv ← evalAll [eval (.Constant (.int 0) j pz) X.env]; let kdv ← holding dv (evalAllOpt []); makeFunction "<lambda>" (X.env.qual ++ "<lambda>") params (.expr body) scope X.env dv kdv [] pos pos.line) _ _ s
  refine wpAny_bind ?_
  show wpAny _ _ (do let v ← eval (.Constant (.int 0) j pz) X.env; return v :: (← holding [v] (evalAll []))) _ _ s
  refine wpAny_bind (wpAny_Constant_int ?_)
  refine wpAny_bind (wpAny_holding (wpAny_pure (wpAny_pure ?_)))
  refine wpAny_bind (wpAny_holding (wpAny_pure ?_))
  rw [makeFunction_eq]
  simp only [List.zip_nil_right, List.filterMap_nil, List.isEmpty_nil, List.isEmpty_cons, if_true, pure_bind, Bool.false_eq_true, if_false]
  refine wpAny_bind (wpAny_newTextTuple ?_)
  have I0 := I.tok (s.toks + 1)
  have hn : H s.heap.objs.size = none := I.hok.fresh (Nat.le_refl _)
  have I1 := I0.laid (t' := s.toks + 1) (a := s.heap.objs.size) (o := .tup [.int 0]) (h' := s.heap.push { cls := .type "tuple", data := .seq #[Value.int 0 s.toks] }) (fun b u e => Heap.get?_push_of_some _ e) (Nat.le_refl _) ⟨by rw [sizeLine_eq]; decide, [Value.int 0 s.toks], .cons ⟨_, rfl⟩ .nil, ⟨_, Heap.get?_push_size _ rfl, rfl, _, rfl⟩⟩
  have up : Sm H (upd H s.heap.objs.size (.tup [.int 0])) := Sm.upd hn
  have rs0 := rl.sto.sm up
  refine clo_tail (dV := .ref s.heap.objs.size) I1 lh.tb lh.code lh.mem lh.uniq rs0.tab (L.has I.ok) fun f c' pm ctv H1 s' I2 eN T1 hf h1 hc h2 => ?_
  have nT : s.heap.objs.size ∉ μ := rl.sto.fresh hn
  obtain ⟨st, rs1, r⟩ := clo_told (k := k) (F := cloF1 X params body scope) (dv := .ref s.heap.objs.size) (b := true) rs0 eN T1 hf h1 hc h2 (fun _ => ⟨_, rfl, eN _ _ upd_same (fun _ z => nomatch z), nT⟩)
  exact ⟨.ref f, H1, I2, rfl, o μ H1 (.ref f) ((Step.of_sm up).trans st) rs1 r⟩
end
end DL
namespace DL
open PySem PySem.Spec PyProof.Rows L2 LamX
section
variable {X : Cx}
/-- what a call of such a lambda does, from any frames above the one that made it -/
def CloRun (X : Cx) (k : Nat) (b : Bool) (F : Value → Addr → Value → Value → Obj) (m : ME) : Prop :=
  ∀ {pins : List (Addr × Obj)} {σ : L2.St} {H HZ : Hp} {s s1 : Shared} {A : Around} {outer : List Env} {E : XK} {Q : VK} {μ : Mu} {f c' : Addr} {pm ctv dv : Value}, Inv X pins σ H s → Env0 X.prog X.w X.K X.mg X.base A outer s1 HZ → Un (frs X.stack) [] H HZ s.heap s1.heap →
    HZ f = some (FunO f (F pm c' ctv dv)) → HZ c' = some (CodeO c' (X.env.qual ++ "<lambda>")) → DfO b HZ μ dv → Room (k + 1) A → tE X (fun c d _ H => E c d H) m σ HZ Q →
    codeAny (model X.prog X.w) A (.call (.ref f) ⟨[], []⟩) (CR (L2.CX X.prog X.w) outer X.prog X.w HZ s1 Q E) s1
theorem clo_run0 {k : Nat} {params : Arguments} {body : Expr} {scope : Scope} {m : ME} (L : LamS X.env.scope scope) (hbind : ∀ (q : Str) (cl : List (Str × Addr)) (pm cv ctv : Value), bindArgs (PySem.W.kla_fn "<lambda>" q params body scope cl pm cv ctv) ⟨[], []⟩ = pure [])
    (hbody : ∀ (A : Around) (outer : List Env) (s : Shared) (H : Hp) (E : XK) (f c' : Addr), Room k (lamCx X A outer s H E scope f c').A → ∀ W, Takes (lamCx X A outer s H E scope f c') W → PE (lamCx X A outer s H E scope f c') body (tE (lamCx X A outer s H E scope f c') W m)) :
    CloRun X k false (cloF0 X params body scope) m := by
  intro pins σ H HZ s s1 A outer E Q μ f c' pm ctv dv I e0 un hf hco _ hr ht
  have of1 := (e0.hok f _ hf).1
  obtain ⟨⟨oc, vs, t, hoc, hdc, hvc⟩, _, _⟩ := e0.hok c' _ hco
  refine PySem.W.kla_callFunE hr.depth of1 rfl L.co L.gen rfl ⟨c', oc, vs, t, rfl, hoc, hdc, hvc⟩ ?_
  have hb := hbind (X.env.qual ++ "<lambda>") (cloFrom X.env.cells scope.names []) pm (.ref c') ctv
  show wpAny _ _ (bindArgs (PySem.W.kla_fn "<lambda>" (X.env.qual ++ "<lambda>") params body scope (cloFrom X.env.cells scope.names []) pm (.ref c') ctv) ⟨[], []⟩) _ _ s1
  rw [hb]
  have lim : s1.heap.NoLimit := e0.mod.nolimit.keeps fun b o e => (e0.bs b o e).1
  refine wpAny_pure (wpAny_newFunctionEnv (fun y hy => (L.own y hy).2) (fun y hy => absurd hy (by simp)) (fun h₁ hns hsb => ⟨lim.fresh _ hsb, ?_⟩) L.kind)
  show codeAny _ _ (.expr body (lamEnv X scope s1.heap.objs.size f c')) _ _
  have kp : ∀ b o, s1.heap.get? b = some o → h₁.get? b = some o := fun b o e => hsb.extBut b o (Nat.ne_of_lt (Heap.lt_size e)) (Heap.get?_push_of_some _ e)
  have J : Inv (lamCx X A outer s1 HZ E scope f c') [] σ HZ { s1 with heap := h₁, toks := s1.toks + ([] : List (Str × Value)).length } := lam_start2 I L e0 hr.hd un hns kp
  refine PySem.W.kla_codeExpr (wpAny_mono ((hbody A outer s1 HZ E f c' (hr.deeper _) (fun c d _ H => E c d H) (takes_of rfl rfl rfl rfl)).run [] _ _ HZ Q J ht) (fun v s' hq => ?_) fun e s' hq => hq)
  obtain ⟨w', H', J', rv, q⟩ := hq
  exact ⟨w', H', J'.os, J'.bare, J'.base, J'.hok, rv, q⟩
theorem clo_run1 {k i : Nat} {a : Arg} {ds : List Expr} {params : Arguments} {body : Expr} {scope : Scope} {m : ME} (L : LamS1 X.env.scope scope a.arg) (hp : params = ⟨[], [a], none, [], [], none, ds⟩) (nd : X.N.Nodup) (hi : X.N[i]? = some a.arg)
    (hbody : ∀ (A : Around) (outer : List Env) (s : Shared) (H : Hp) (E : XK) (f c' : Addr), Room k (lamCx X A outer s H E scope f c').A → ∀ W, Takes (lamCx X A outer s H E scope f c') W → PE (lamCx X A outer s H E scope f c') body (tE (lamCx X A outer s H E scope f c') W m)) :
    CloRun X k true (cloF1 X params body scope) (fun env S => m (env.set i (some (.int 0))) S) := by
  intro pins σ H HZ s s1 A outer E Q μ f c' pm ctv dv I e0 un hf hco hd hr ht
  have of1 := (e0.hok f _ hf).1
  obtain ⟨⟨oc, vs, t, hoc, hdc, hvc⟩, _, _⟩ := e0.hok c' _ hco
  refine PySem.W.kla_callFunE hr.depth of1 rfl L.co L.gen rfl ⟨c', oc, vs, t, rfl, hoc, hdc, hvc⟩ ?_
  have lim : s1.heap.NoLimit := e0.mod.nolimit.keeps fun b o e => (e0.bs b o e).1
  have go : ∀ u, L2.RelV (.int 0) u → wpAny (model X.prog X.w) A.in1 (newFunctionEnv scope mainGlobals (cloFrom X.env.cells scope.names []) [(a.arg, u)] (X.env.qual ++ "<lambda>" ++ ".<locals>.") (some f) (.ref c') none builtinsNs)
      (fun env s₂ => s₂.heap.NoLimit ∧ codeAny (model X.prog X.w) A (.expr body env) (CR (L2.CX X.prog X.w) outer X.prog X.w HZ s1 Q E) s₂) (fun e s' => CR (L2.CX X.prog X.w) outer X.prog X.w HZ s1 Q E (.error e) s') s1 := fun u ru => by
    refine wpAny_newFunctionEnv (fun y hy => L.nocell y hy) (fun y hy => by rw [List.mem_singleton.mp hy]; exact L.par) (fun h₁ hns hsb => ⟨lim.fresh _ hsb, ?_⟩) L.kind
    show codeAny _ _ (.expr body (lamEnv X scope s1.heap.objs.size f c')) _ _
    have kp : ∀ b o, s1.heap.get? b = some o → h₁.get? b = some o := fun b o e => hsb.extBut b o (Nat.ne_of_lt (Heap.lt_size e)) (Heap.get?_push_of_some _ e)
    have J : Inv (lamCx X A outer s1 HZ E scope f c') [] (σ.set i (some (.int 0))) HZ { s1 with heap := h₁, toks := s1.toks + ([(a.arg, u)] : List (Str × Value)).length } := lam_start1 I L nd hi ru e0 hr.hd un hns kp
    have ht2 : tE (lamCx X A outer s1 HZ E scope f c') (fun c d _ H => E c d H) m (σ.set i (some (.int 0))) HZ Q := by
      obtain ⟨env, S, μ1, rl, o⟩ := ht
      exact ⟨env.set i (some (.int 0)), S, μ1, ⟨rl.env.set (rep_int 0), rl.sto⟩, o⟩
    refine PySem.W.kla_codeExpr (wpAny_mono ((hbody A outer s1 HZ E f c' (hr.deeper _) (fun c d _ H => E c d H) (takes_of rfl rfl rfl rfl)).run [] _ _ HZ Q J ht2) (fun v s' hq => ?_) fun e s' hq => hq)
    obtain ⟨w', H', J', rv, q⟩ := hq
    exact ⟨w', H', J'.os, J'.bare, J'.base, J'.hok, rv, q⟩
  obtain ⟨T, rfl, hT, _⟩ := hd rfl
  obtain ⟨_, its, rv, o, ho, hc, n, hdt⟩ := e0.hok T _ hT
  obtain ⟨u, rfl, ru⟩ := vals1 rv
  exact bind_dflt hp rfl ho hdt (go u ru)
end
end DL
namespace DL
open PySem PySem.Spec PyProof.Rows L2 LamX
theorem relE_wipe1 {K : PySem.W.Frag} {mg : Str → Option Value} {μ : Mu} {H : Hp} {σ : L2.St} : ∀ (vs : List Nat) {env : En}, RelE K mg μ H env σ → RelE K mg μ H (wipeE env vs) σ
  | [], _, r => r
  | i :: vs, env, r => by
    have q := relE_wipe1 vs r
    refine ⟨by show ((wipeE env vs).set i none).length = _; rw [List.length_set]; exact q.len, fun j d e => ?_⟩
    have e : ((wipeE env vs).set i none)[j]? = some (some d) := e
    by_cases hj : j = i
    · subst hj
      rw [List.getElem?_set] at e
      simp only [if_true] at e
      split at e <;> cases e
    · rw [List.getElem?_set_ne (Ne.symm hj)] at e
      exact q.at_ j d e
/-- the lambdas of a frame: with a default or not, the name, the object, what it does -/
abbrev CloTab := List (Bool × Str × (Value → Addr → Value → Value → Obj) × ME)
open Classical in
noncomputable def eKindV (hd : Str → Option D) (j : Nat) (fg : List Nat) (tab : CloTab) : ME := fun env S => match env[j]? with
  | some (some (.clo k b q F)) => match tab[k]? with
    | some (b', q', F', m) => if b = b' ∧ q = q' ∧ F = F' then kindM hd (m (wipeE env fg) S) else .stuck
    | none => .stuck
  | _ => .stuck
/-- one of them is right -/
structure CloOk (X : Cx) (k : Nat) (e : Bool × Str × (Value → Addr → Value → Value → Obj) × ME) : Prop where
  nm : e.2.1 = X.env.qual ++ "<lambda>"
  fn : ∀ pm c' ctv dv, ∃ fd, e.2.2.1 pm c' ctv dv = { cls := .type "function", data := .func fd }
  run : CloRun X k e.1 e.2.2.1 e.2.2.2
section
variable {X : Cx} {W : WX}
theorem qE_kindV {k j : Nat} {x y : Str} {g : Addr} {hd : Str → Option D} {fg : List Nat} {tab : CloTab} {pos ppos p2 : Pos} (kf : KindF X.prog X.w X.K X.mg X.base k x g hd) (hm : X.mg x = some (.ref g)) (hr : Room (k + 2) X.A) (hN : X.N[j]? = some y) (hv : Vis X.env.scope y)
    (ht : ∀ e ∈ tab, CloOk X k e) (hg : Gl X x := by rfl) (hdb : (x == ("__debug__" : Str)) = false := by decide) (hyd : (y == ("__debug__" : Str)) = false := by decide) (hyc : (y == ("__classdict__" : Str)) = false := by decide)
    (na : starEach [.Name y p2] X.env = (false, eval (.Name y p2) X.env) :: starEach [] X.env := by rfl) : PE X (.Call (.Name x ppos) [.Name y p2] [] pos) (tE X W (eKindV hd j fg tab)) := by
  obtain ⟨pg, bg, sg, dV, kV, doc, pmg, cdv, ct, oc, an, od, osl, Ng, a, lk, hcg, hb, Sg, hNg, hva, hda, hca, hG⟩ := kf.ex
  refine ⟨fun pins s σ H Q I h => ?_⟩
  obtain ⟨env, S, μ, rl, o⟩ := h
  unfold eKindV at o
  split at o
  · rename_i kk b q F he
    split at o
    · rename_i b' q' F' m het
      split at o
      · rename_i hc
        obtain ⟨rfl, rfl, rfl⟩ := hc
        obtain ⟨hq, hfun, hrun⟩ := ht _ (List.mem_of_getElem? het)
        simp only at hq hrun hfun
        subst hq
        obtain ⟨v, hσ, rv⟩ := rl.env.at_ j _ he
        have rv0 := rv
        unfold Rep at rv
        obtain ⟨f, c', pm, ctv, dv, rfl, ⟨hf, nf⟩, ⟨hco, nc⟩, hdf⟩ := rv
        refine wpAny_Call_Name_kw (ld_glob I hg hm ?_ hdb)
        refine PySem.W.callWith_K (h₀ := X.base) I.ok.mod.kin kf.kp ?_ (by rfl) (by rfl)
        rw [na]
        refine Calls.spliced_cons ?_
        refine thn ((pe_var (pos := p2) (i := j) hN hv hyd hyc).run pins s σ H (fun v H1 => v = .ref f ∧ H1 = H) I ⟨.ref f, hσ, rfl, rfl⟩) fun u s1 ⟨v, H1, I1, r1, q1⟩ => ?_
        obtain ⟨ev, eH⟩ := q1
        subst ev eH
        obtain rfl : u = Value.ref f := r1
        refine Calls.spliced_nil ⟨I1.kIn, ?_⟩
        have hte : tE X W (eKind hd fun env S => m (wipeE env fg) S) σ H1 Q := ⟨env, S, μ, rl, o⟩
        have rc : codeAny (model X.prog X.w) X.A (.call (.ref g) ⟨[.ref f], []⟩) (CR C8.CX0 X.stack X.prog X.w H1 s1 Q C8.E0) s1 := by
          refine run_ofS (N := Ng) (ps := [a]) (us := [.ref f]) (vs := [.ref f]) lk hcg Sg hr I1.env0 (hb s1 [.ref f] I1.kIn rfl) (.cons rfl .nil) rfl fun hr' => ?_
          have hgv := hG X rfl rfl rfl rfl rfl hr (X.env.qual ++ "<lambda>") f c' s1 H1 Q
            (fun E HZ Q' => HZ f = some (FunO f (F pm c' ctv dv)) ∧ DfO b HZ μ dv ∧ tE X (fun c d _ H => E c d H) m σ HZ Q')
          refine Exists.elim (hgv (fun W pn xe E p1 p2 tk hW => ?_) hco ?_) fun t' h3 => ⟨t', h3.1.nox, h3.2⟩
          · refine ⟨fun pinsZ sZ σZ HZ QZ IZ hZ => ?_⟩
            obtain ⟨hs, hcZ, hfZ, hdZ, htZ⟩ := hZ
            refine wpAny_Call_Name_kw (thn ((pe_var (pos := p1) (i := 0) hNg hva hda hca).run pinsZ sZ σZ HZ (fun v H1 => v = .ref f ∧ H1 = HZ) IZ ⟨.ref f, hs, rfl, rfl⟩) fun u s2 ⟨v, H2, I2, r2, q2⟩ => ?_)
            obtain ⟨ev, eH⟩ := q2
            subst ev eH
            obtain rfl : u = Value.ref f := r2
            have of1 : s2.heap.get? f = some (F pm c' ctv dv) := (I2.hok f _ hfZ).1
            obtain ⟨fd, efd⟩ := hfun pm c' ctv dv
            rw [efd] at of1
            refine PySem.W.callWith_F0 ⟨_, _, _, _, of1⟩ ?_
            have un : Un (frs X.stack) [] H1 H2 s1.heap s2.heap := I2.base
            have rc := hrun I1 I2.env0 un hfZ hcZ hdZ hr' htZ
            have hx := passes_call tk hW
            refine wpAny_call (codeAny_mono rc fun r s' hq => ?_)
            cases r with
            | error e => exact hx pinsZ σZ H2 s2 e s' I2 hq
            | ok fl =>
              cases fl with
              | ret u => exact I2.after hq
              | next => exact False.elim hq
              | brk => exact False.elim hq
              | cont => exact False.elim hq
          · obtain ⟨env1, S1, μ1, rl1, o1⟩ := (t_kind hte).2 H1 (ExtN.refl H1) rl.sto.tab
            exact ⟨hf, hdf, wipeE env1 fg, S1, μ1, ⟨relE_wipe1 fg rl1.env, rl1.sto⟩, o1⟩
        refine wpAny_call (codeAny_mono rc fun r s2 hq => ?_)
        cases r with
        | error e => exact (show False from hq).elim
        | ok fl =>
          cases fl with
          | ret u => exact I1.after hq
          | next => exact False.elim hq
          | brk => exact False.elim hq
          | cont => exact False.elim hq
      · exact o.elim
    · exact o.elim
  · exact o.elim
theorem qCl0 {k : Nat} {params : Arguments} {body : Expr} {scope : Scope} {m : ME} (L : LamS X.env.scope scope)
    (hbody : ∀ (A : Around) (outer : List Env) (s : Shared) (H : Hp) (E : XK) (f c' : Addr), Room k (lamCx X A outer s H E scope f c').A → ∀ W, Takes (lamCx X A outer s H E scope f c') W → PE (lamCx X A outer s H E scope f c') body (tE (lamCx X A outer s H E scope f c') W m))
    (hbind : ∀ (q : Str) (cl : List (Str × Addr)) (pm cv ctv : Value), bindArgs (PySem.W.kla_fn "<lambda>" q params body scope cl pm cv ctv) ⟨[], []⟩ = pure [] := by intros; rfl) : CloOk X k (false, X.env.qual ++ "<lambda>", cloF0 X params body scope, m) :=
  ⟨rfl, fun _ _ _ _ => ⟨_, rfl⟩, clo_run0 L hbind hbody⟩
theorem qCl1 {k i : Nat} {a : Arg} {ds : List Expr} {body : Expr} {scope : Scope} {m : ME} (L : LamS1 X.env.scope scope a.arg) (nd : X.N.Nodup) (hi : X.N[i]? = some a.arg)
    (hbody : ∀ (A : Around) (outer : List Env) (s : Shared) (H : Hp) (E : XK) (f c' : Addr), Room k (lamCx X A outer s H E scope f c').A → ∀ W, Takes (lamCx X A outer s H E scope f c') W → PE (lamCx X A outer s H E scope f c') body (tE (lamCx X A outer s H E scope f c') W m)) :
    CloOk X k (true, X.env.qual ++ "<lambda>", cloF1 X ⟨[], [a], none, [], [], none, ds⟩ body scope, fun env S => m (env.set i (some (.int 0))) S) :=
  ⟨rfl, fun _ _ _ _ => ⟨_, rfl⟩, clo_run1 L rfl nd hi hbody⟩
end
end DL

set_option Elab.async false
set_option linter.all false
set_option maxRecDepth 100000
set_option maxHeartbeats 4000000
/-! DL36: a comprehension that hands on, one by one, the lambdas of its own frame. -/
namespace DL
open PySem PySem.Spec PyProof.Rows L2 LamX
section
variable {X : Cx}
/-- a comprehension's block whose element may lean on the frame below, which stands as it stood -/
theorem lc_lean {pins : List (Addr × Obj)} {s : Shared} {σ : L2.St} {H : Hp} {Q : VK} {elt tg iter : Expr} {scope : Scope} {own : List (Str × Nat)} {pos pos' : Pos} {wi : L2.TI} {g : TG} {tt : L2.TT} {te : TE} {use : Option (Value → Sem Unit)} {Qf : Value → Shared → Prop}
    (hc : X.calm = true) (hN : X.N.Nodup) (I : Inv X pins σ H s) (hi : PI X tg iter wi) (ok : BlkOk X.N X.env.scope scope own)
    (hg : ∀ (s : Shared) (H : Hp) (C : Addr) (cl : List (Str × Addr)) (fp : List Addr), PG (X.blk s H scope (compEnvC scope cl C X.env) fp) tg g)
    (ht : ∀ (s : Shared) (H : Hp) (C : Addr) (cl : List (Str × Addr)) (fp : List Addr), PTs (X.blk s H scope (compEnvC scope cl C X.env) fp) [] tt)
    (he : ∀ (s : Shared) (H : Hp) (C : Addr) (cl : List (Str × Addr)) (fp : List Addr) (pY : List (Addr × Obj)) (sY : Shared) (σY : L2.St) (HY : Hp) (QY : VK), Inv (X.blk s H scope (compEnvC scope cl C X.env) fp) pY σY HY sY →
      (∀ (H' : Hp) (s' : Shared) (p' : List (Addr × Obj)) (σ' : L2.St), Inv (X.blk s H scope (compEnvC scope cl C X.env) fp) p' σ' H' s' → Inv X pins σ H' s') → L2.wipe σY (own.map (·.2)) = L2.wipe σ (own.map (·.2)) → te σY HY QY →
      wpAny (model X.prog X.w) X.A (eval elt (compEnvC scope cl C X.env)) (EP (X.blk s H scope (compEnvC scope cl C X.env) fp) pY σY QY) (fun _ _ => False) sY)
    (hs : ∀ x, foldedSetIterable iter X.env x = pure x) (h : tLc wi g tt te (own.map (·.2)) σ H Q)
    (hRR : ∀ D C s' m H', Inv X pins σ H' s' → Q (.ref D) H' → s'.heap.Ns C m → FpOk X pins H' C → compPost (model X.prog X.w) X.A X.xe use Qf (.ref D) C (.ok .next) s') :
    wpAny (model X.prog X.w) X.A (comprehension (.ListComp elt [⟨tg, iter, [], 0⟩] scope pos) scope X.env pos' (newList []) false (eval iter X.env) use) Qf X.xe s := by
  refine wpAny_comprehension_free (use := use) rfl hs (closure_ok fun y hy e => (ok.free y hy e).elim (fun k => I.ok.has _ (.inl k)) fun k => I.ok.has _ (.inr k)) ok.kind (fun y hy e => by rw [ok.uniq y hy, e])
    (thn (hi.run pins s σ H _ I h) fun xv s1 hx => thn hx fun itv s2 ⟨it, fp, tn, J, H2, e, I2, T, st2, f2, q⟩ => ?_)
  subst e
  refine wpAny_newObj_type (newEnv_comp ?_) (by show 0 ≤ sizeLine; decide)
  obtain ⟨D, hD⟩ : ∃ D, D = s2.heap.objs.size := ⟨_, rfl⟩
  rw [← hD]
  obtain ⟨W, ⟨m0, w0⟩, turn⟩ := q D (I2.hok.fresh (Nat.le_of_eq hD.symm))
  obtain ⟨s3, hs3⟩ : ∃ s3 : Shared, s3 = { s2 with heap := s2.heap.push { cls := .type "list", data := .seq ([] : List Value).toArray } } := ⟨_, rfl⟩
  obtain ⟨H3, hH3⟩ : ∃ H3, H3 = upd H2 D (.lst []) := ⟨_, rfl⟩
  have h3 : s3.heap = s2.heap.push { cls := .type "list", data := .seq ([] : List Value).toArray } := by rw [hs3]
  have I3 : Inv X pins σ H3 s3 := by
    rw [hs3, hH3]
    refine I2.laid (t' := s2.toks) (fun b o e => Heap.get?_push_of_some _ e) (Nat.le_of_eq hD.symm) ⟨Nat.zero_le _, [], 0, .nil, ?_⟩
    rw [hD]
    exact Heap.get?_push_size _ rfl
  have f3 : ∀ b ∈ fp, FpOk X pins H3 b ∧ b < s3.heap.objs.size := fun b hb => by
    obtain ⟨o, e, _⟩ := T.obj _ _ st2 b hb
    have hlt := Heap.lt_size e
    refine ⟨⟨?_, (f2 b hb).2⟩, by rw [h3, Heap.size_push]; exact Nat.lt_succ_of_lt hlt⟩
    rw [hH3, upd_ne (by rw [hD]; exact Nat.ne_of_lt hlt)]
    exact (f2 b hb).1
  have I4 := block_start I3 ok hN f3
  have pg := hg s3 H3 s3.heap.objs.size (cellsFrom (s3.heap.objs.size + 1) scope.names (cloFrom X.env.cells scope.names [])) fp
  have pt := ht s3 H3 s3.heap.objs.size (cellsFrom (s3.heap.objs.size + 1) scope.names (cloFrom X.env.cells scope.names [])) fp
  have pe := he s3 H3 s3.heap.objs.size (cellsFrom (s3.heap.objs.size + 1) scope.names (cloFrom X.env.cells scope.names [])) fp
  rw [← hs3]
  show codeAny _ _ (.compStart (.ListComp elt [⟨tg, iter, [], 0⟩] scope pos) 0 (.ref it) (.ref D) (compEnvC scope (cellsFrom (s3.heap.objs.size + 1) scope.names (cloFrom X.env.cells scope.names [])) s3.heap.objs.size X.env)) (compPost (model X.prog X.w) X.A X.xe use Qf (.ref D) s3.heap.objs.size) { s3 with heap := pushCells (s3.heap.push { cls := .type "dict", data := .dict #[] }) scope.names }
  obtain ⟨ce, hce⟩ : ∃ ce, ce = compEnvC scope (cellsFrom (s3.heap.objs.size + 1) scope.names (cloFrom X.env.cells scope.names [])) s3.heap.objs.size X.env := ⟨_, rfl⟩
  rw [← hce] at I4 pg pt pe ⊢
  obtain ⟨s4, hs4⟩ : ∃ s4 : Shared, s4 = { s3 with heap := pushCells (s3.heap.push { cls := .type "dict", data := .dict #[] }) scope.names } := ⟨_, rfl⟩
  rw [← hs4] at I4 ⊢
  have kp4 : ∀ b o, s2.heap.get? b = some o → s4.heap.get? b = some o := fun b o e => by
    rw [hs4]
    refine pushCells_keeps _ _ _ _ (Heap.get?_push_of_some _ ?_)
    rw [h3]
    exact Heap.get?_push_of_some _ e
  have st4 : tn 0 s4.heap := T.keep _ _ _ st2 fun b _ o e => kp4 b o e
  have stat : ∀ {σ' : L2.St} {H' : Hp} {s' : Shared}, Inv (X.blk s3 H3 scope ce fp) [] σ' H' s' → (∀ b ∈ fp, H' b = none) → ∀ b ∈ fp, FpOk (X.blk s3 H3 scope ce fp) [] H' b := fun {σ' H' s'} I' hn b hb =>
    ⟨hn b hb, (I'.ok.exf b hb).1, I'.ok.exfs b hb, .inl hb, fun x c e => (I'.ok.exf b hb).2 x c e, fun p hp => absurd (show p ∈ ([] : List (Addr × Obj)) ++ [] from hp) (by simp)⟩
  have back : ∀ (H' : Hp) (s' : Shared) (p' : List (Addr × Obj)) (σ' : L2.St), Inv (X.blk s3 H3 scope ce fp) p' σ' H' s' → Inv X pins σ H' s' := fun H' s' p' σ' I' =>
    I3.call' (ch := fp) I'.os I'.base I'.hok I'.bare fun b hb => ⟨(f3 b hb).1.2.2.2.1, (f3 b hb).1.2.1, (f3 b hb).1.2.2.2.2.1, (f3 b hb).1.2.2.2.2.2⟩
  have n3 : ∀ b ∈ fp, H3 b = none := fun b hb => (f3 b hb).1.1
  have loop : codeAny (model X.prog X.w) X.A (.compLoop (.ListComp elt [⟨tg, iter, [], 0⟩] scope pos) 0 (.ref it) (.ref D) ce) (compPost (model X.prog X.w) X.A X.xe use Qf (.ref D) s3.heap.objs.size) s4 := by
    refine compLoop_any (fun n s' => ∃ i H', Inv (X.blk s3 H3 scope ce fp) [] (L2.wipe σ (own.map (·.2))) H' s' ∧ tn i s'.heap ∧ (∀ b ∈ fp, H' b = none) ∧ W i n H') ?_ m0 ⟨0, H3, I4, st4, n3, by rw [hH3]; exact w0⟩
    rintro n s5 ⟨i, H5, I5, st5, n5, w5⟩
    rcases turn i n H5 w5 with ⟨stop, qq⟩ | ⟨go, Nx, hNx, step⟩
    · refine thnF (T.done (X.blk s3 H3 scope ce fp) rfl rfl rfl hc i [] s5 _ H5 (fun _ _ => False) I5 (stat I5 n5) st5 stop) fun r s6 ⟨hr, I6⟩ => ?_
      subst hr
      have z : H5 ce.locals = none := I6.free
      obtain ⟨m, hn, _⟩ := I6.loc
      have hn : s6.heap.Ns ce.locals m := hn
      have cL : ce.locals = s3.heap.objs.size := by rw [hce]; rfl
      rw [cL] at z hn
      exact hRR D s3.heap.objs.size s6 m H5 (back _ _ _ _ I6) qq hn (I3.fpOk (Nat.le_refl _) z)
    · refine thnF (T.item (X.blk s3 H3 scope ce fp) rfl rfl rfl hc i [] s5 _ H5 (fun _ _ => False) I5 (stat I5 n5) st5 go) fun r s6 ⟨u, hr, h6⟩ => ?_
      subst hr
      refine thnF h6 fun _ s7 ⟨x, H7, I7, r7, y7, st7, n7⟩ => ?_
      refine thnF (pg.run _ s7 _ H7 x u _ (I7.pinned (stat I7 n7) (T.obj _ _ st7)) r7 (step x H7 y7)) fun _ s8 ⟨σ8, H8, I8, hw8, q8⟩ => ?_
      refine thnF (pt.run _ s8 σ8 H8 _ I8 q8) fun b s9 ⟨H9, I9, q9⟩ => ?_
      have fin : ∀ {s' : Shared} {H' : Hp}, Inv (X.blk s3 H3 scope ce fp) ([] ++ pinsAt fp s7.heap) σ8 H' s' → Nx H' → ∃ m, m < n ∧ ∃ i H', Inv (X.blk s3 H3 scope ce fp) [] (L2.wipe σ (own.map (·.2))) H' s' ∧ tn i s'.heap ∧ (∀ b ∈ fp, H' b = none) ∧ W i m H' := fun {s' H'} I' nx => by
        obtain ⟨m', hm, w'⟩ := hNx H' nx
        have pin' : ∀ b ∈ fp, ∀ o, s7.heap.get? b = some o → s'.heap.get? b = some o ∧ H' b = none := fun b hb o e =>
          let z := I'.pin (b, o) (List.mem_append_right _ (List.mem_append_right _ (mem_pinsAt hb e)))
          ⟨z.1, z.2.1⟩
        refine ⟨m', hm, i + 1, H', (I'.unpinned (pins := [])).weak (by rw [← hw8, L2.wipe_length]) (fun j v e => ?_), T.keep _ _ _ st7 fun b hb o e => (pin' b hb o e).1, fun b hb => ?_, w'⟩
        · rw [← hw8] at e
          exact (wipe_some e).1
        · obtain ⟨o, e, _⟩ := T.obj _ _ st7 b hb
          exact (pin' b hb o e).2
      cases b with
      | false =>
        simp only [Bool.false_eq_true, if_false] at q9 ⊢
        exact fin I9 q9
      | true =>
        simp only [if_true] at q9 ⊢
        refine thnF (pe _ s9 σ8 H9 _ I9 back hw8 q9) fun z s10 ⟨yv, H10, I10, r10, acc, hD10, hz10, nx⟩ => ?_
        exact app_ok (X := X.blk s3 H3 scope ce fp) I10 hD10 hz10 r10 fun s11 I11 => fin I11 nx
  exact codeAny_compStart_list loop (T.self X.A 0 _ _ _ st4 loop)
/-- the outer frame's reading of what the block read -/
theorem relE_lean {K : PySem.W.Frag} {mg : Str → Option Value} {μ : Mu} {H : Hp} {env : En} {σ σY : L2.St} {vs fg : List Nat} (r : RelE K mg μ H env σY) (hw : L2.wipe σY vs = L2.wipe σ vs) (hv : ∀ v ∈ vs, v ∈ fg) : RelE K mg μ H (wipeE env fg) σ := by
  have hl : σY.length = σ.length := by rw [← L2.wipe_length σY vs, hw, L2.wipe_length]
  refine ⟨by rw [wipeE_length, r.len, hl], fun i d e => ?_⟩
  obtain ⟨e1, n1⟩ := wipeE_some e
  obtain ⟨v, e2, r2⟩ := r.at_ i d e1
  have nv : i ∉ vs := fun z => n1 (hv i z)
  refine ⟨v, ?_, r2⟩
  rw [← L2.wipe_out (σ := σ) nv, ← hw, L2.wipe_out nv]
  exact e2
theorem qE_compV {W : WX} {k j : Nat} {x y : Str} {g : Addr} {hd : Str → Option D} {fg : List Nat} {tab : CloTab} {mi : MI} {iter : Expr} {scope : Scope} {own : List (Str × Nat)} {pos cpos ppos p2 tp : Pos} {gm : MG}
    (hc : X.calm = true) (hNd : X.N.Nodup) (kf : KindF X.prog X.w X.K X.mg X.base k x g hd) (hm : X.mg x = some (.ref g)) (hr : Room (k + 2) X.A) (hN : X.N[j]? = some y) (hy : (relS scope X.env.scope).names.lookup y = some .local) (hgl : (relS scope X.env.scope).names.lookup x = some .globalImplicit)
    (ht : ∀ e ∈ tab, CloOk X k e) (hi : PI X (.Name y tp) iter (tI X W mi)) (ok : BlkOk X.N X.env.scope scope own) (hfg : ∀ v ∈ own.map (·.2), v ∈ fg)
    (hg : ∀ (s : Shared) (H : Hp) (C : Addr) (cl : List (Str × Addr)) (fp : List Addr), PG (X.blk s H scope (compEnvC scope cl C X.env) fp) (.Name y tp) (tGc (X.blk s H scope (compEnvC scope cl C X.env) fp) (own.map (·.2)) gm))
    (hs : ∀ x, foldedSetIterable iter X.env x = pure x := by intro _; rfl) (hdb : (x == ("__debug__" : Str)) = false := by decide) (hyd : (y == ("__debug__" : Str)) = false := by decide) (hyc : (y == ("__classdict__" : Str)) = false := by decide) :
    PE X (.ListComp (.Call (.Name x ppos) [.Name y p2] [] cpos) [⟨.Name y tp, iter, [], 0⟩] scope pos) (tE X W (eComp mi gm tYesM (eKindV hd j fg tab) (own.map (·.2)))) := by
  obtain ⟨pg, bg, sg, dV, kV, doc, pmg, cdv, ct, oc, an, od, osl, Ng, a, lk, hcg, hb, Sg, hNg, hva, hda, hca, hG⟩ := kf.ex
  refine ⟨fun pins s σ H Q I h => ?_⟩
  have h2 := lc_sem (X := X) (own := own) (lc_frozen h)
  rw [eval_ListComp]
  refine lc_lean (g := tGc X (own.map Prod.snd) gm) (te := tE X W0 (eKindV hd j fg tab)) hc hNd I hi ok hg (tt := tT X W0 tYesM) (fun s0 H0 C cl fp => show PTs (X.blk s0 H0 scope (compEnvC scope cl C X.env) fp) [] (tT X W0 tYesM) from sIf_nil (X := X.blk s0 H0 scope (compEnvC scope cl C X.env) fp)) (fun s0 H0 C cl fp pY sY σY HY QY IY back hw hte => ?_) hs h2 fun D C s' m H' I' q hn f => ⟨m, hn, fun h'' sb => ?_⟩
  · obtain ⟨env, S, μ, rl, o⟩ := hte
    unfold eKindV at o
    split at o
    · rename_i kk b q F he
      split at o
      · rename_i b' q' F' m het
        split at o
        · rename_i hcc
          obtain ⟨rfl, rfl, rfl⟩ := hcc
          obtain ⟨hq, hfun, hrun⟩ := ht _ (List.mem_of_getElem? het)
          simp only at hq hrun hfun
          subst hq
          obtain ⟨v, hσ, rv⟩ := rl.env.at_ j _ he
          unfold Rep at rv
          obtain ⟨f, c', pm, ctv, dv, rfl, ⟨hf, nf⟩, ⟨hco, nc⟩, hdf⟩ := rv
          refine wpAny_Call_Name_kw (ld_glob IY hgl hm ?_ hdb)
          refine PySem.W.callWith_K (h₀ := X.base) IY.ok.mod.kin kf.kp ?_ (by rfl) (by rfl)
          show wpAny _ _ (spliced ((false, eval (.Name y p2) (compEnvC scope cl C X.env)) :: backTo cpos (starEach [] (compEnvC scope cl C X.env)))) _ _ sY
          refine Calls.spliced_cons ?_
          refine thnF ((pe_var (X := X.blk s0 H0 scope (compEnvC scope cl C X.env) fp) (pos := p2) (i := j) hN (.inl hy) hyd hyc).run pY sY σY HY (fun v H1 => v = .ref f ∧ H1 = HY) IY ⟨.ref f, hσ, rfl, rfl⟩) fun u s1 ⟨v, H1, I1, r1, q1⟩ => ?_
          obtain ⟨ev, eH⟩ := q1
          subst ev eH
          obtain rfl : u = Value.ref f := r1
          refine Calls.spliced_nil ⟨I1.kIn, ?_⟩
          have IX := back _ _ _ _ I1
          have hteX : tE X W0 (eKind hd m) σ H1 QY := ⟨wipeE env fg, S, μ, ⟨relE_lean rl.env hw hfg, rl.sto⟩, o⟩
          have rc : codeAny (model X.prog X.w) X.A (.call (.ref g) ⟨[.ref f], []⟩) (CR C8.CX0 X.stack X.prog X.w H1 s1 QY C8.E0) s1 := by
            refine run_ofS (N := Ng) (ps := [a]) (us := [.ref f]) (vs := [.ref f]) lk hcg Sg hr IX.env0 (hb s1 [.ref f] IX.kIn rfl) (.cons rfl .nil) rfl fun hr' => ?_
            have hgv := hG X rfl rfl rfl rfl rfl hr (X.env.qual ++ "<lambda>") f c' s1 H1 QY
              (fun E HZ Q' => HZ f = some (FunO f (F pm c' ctv dv)) ∧ DfO b HZ μ dv ∧ tE X (fun c d _ H => E c d H) m σ HZ Q')
            refine Exists.elim (hgv (fun W pn xe E p1 p2 tk hW => ?_) hco ?_) fun t' h3 => ⟨t', h3.1.nox, h3.2⟩
            · refine ⟨fun pinsZ sZ σZ HZ QZ IZ hZ => ?_⟩
              obtain ⟨hs, hcZ, hfZ, hdZ, htZ⟩ := hZ
              refine wpAny_Call_Name_kw (thn ((pe_var (pos := p1) (i := 0) hNg hva hda hca).run pinsZ sZ σZ HZ (fun v H1 => v = .ref f ∧ H1 = HZ) IZ ⟨.ref f, hs, rfl, rfl⟩) fun u s2 ⟨v, H2, I2, r2, q2⟩ => ?_)
              obtain ⟨ev, eH⟩ := q2
              subst ev eH
              obtain rfl : u = Value.ref f := r2
              have of1 : s2.heap.get? f = some (F pm c' ctv dv) := (I2.hok f _ hfZ).1
              obtain ⟨fd, efd⟩ := hfun pm c' ctv dv
              rw [efd] at of1
              refine PySem.W.callWith_F0 ⟨_, _, _, _, of1⟩ ?_
              have un : Un (frs X.stack) [] H1 H2 s1.heap s2.heap := I2.base
              have rc := hrun IX I2.env0 un hfZ hcZ hdZ hr' htZ
              have hx := passes_call tk hW
              refine wpAny_call (codeAny_mono rc fun r s' hq => ?_)
              cases r with
              | error e => exact hx pinsZ σZ H2 s2 e s' I2 hq
              | ok fl =>
                cases fl with
                | ret u => exact I2.after hq
                | next => exact False.elim hq
                | brk => exact False.elim hq
                | cont => exact False.elim hq
            · exact ⟨hf, hdf, (t_kind hteX).2 H1 (ExtN.refl H1) rl.sto.tab⟩
          refine wpAny_call (codeAny_mono rc fun r s2 hq => ?_)
          cases r with
          | error e => exact (show False from hq).elim
          | ok fl =>
            cases fl with
            | ret u => exact I1.after hq
            | next => exact False.elim hq
            | brk => exact False.elim hq
            | cont => exact False.elim hq
        · exact o.elim
      · exact o.elim
    · exact o.elim
  · obtain ⟨f0, f1, f2, f3, f4, f5⟩ := f
    exact ⟨.ref D, H', I'.turned (t' := s'.toks) (fun b o hb e => (sb.2 b hb).trans e) f0 f1 f3 f4 f5, rfl, q⟩
end
end DL

set_option Elab.async false
set_option linter.all false
set_option maxRecDepth 100000
set_option maxHeartbeats 4000000
/-! DL37: what lambdas that were handed on, one by one, tell, said without them. -/
namespace DL
open PySem PySem.Spec PyProof.Rows L2 LamX
theorem wipeE_get (env : En) : ∀ (vs : List Nat) (t : Nat), (wipeE env vs)[t]? = if t ∈ vs then env[t]?.map (fun _ => none) else env[t]?
  | [], t => by simp [wipeE]
  | v :: vs, t => by
    unfold wipeE
    rw [List.getElem?_set, wipeE_get env vs t, wipeE_length]
    by_cases hv : v = t
    · subst hv
      by_cases hl : v < env.length
      · simp [hl]
      · simp [hl]
    · have : ¬ t = v := fun z => hv z.symm
      simp [hv, this]
theorem wipeE_set {env : En} {v : Option D} {a : Nat} {fg : List Nat} (h : a ∈ fg) : wipeE (env.set a v) fg = wipeE env fg := by
  apply List.ext_getElem?
  intro t
  rw [wipeE_get, wipeE_get, List.getElem?_set]
  by_cases ht : t ∈ fg
  · rw [if_pos ht, if_pos ht]
    by_cases ha : a = t
    · subst ha
      by_cases hl : a < env.length
      · simp [hl]
      · simp [hl]
    · simp [ha]
  · rw [if_neg ht, if_neg ht]
    have : a ≠ t := fun z => ht (z ▸ h)
    simp [this]
theorem wipeE_wipe {env : En} {vs fg : List Nat} (h : ∀ v ∈ vs, v ∈ fg) : wipeE (wipeE env vs) fg = wipeE env fg := by
  induction vs with
  | nil => rfl
  | cons v vs ih =>
    show wipeE ((wipeE env vs).set v none) fg = _
    rw [wipeE_set (h v List.mem_cons_self), ih fun u hu => h u (List.mem_cons_of_mem _ hu)]
/-- what they tell, one by one -/
def kindsI (hd : Str → Option D) (e : En) : List ME → List D → Sto → Res (List D)
  | [], acc, S => .ok acc S
  | m :: ms, acc, S => (kindM hd (m e S)).bindS fun v S3 => if acc.length < 1000000 then kindsI hd e ms (acc ++ [v]) S3 else .stuck
def eKinds (hd : Str → Option D) (fg : List Nat) (ms : List ME) : ME := fun env S => (kindsI hd (wipeE env fg) ms [] S).bind fun ds S => .ok (.lst ds) S
/-- the lambdas as values -/
def cloDs : Nat → CloTab → List D
  | _, [] => []
  | k, e :: es => .clo k e.1 e.2.1 e.2.2.1 :: cloDs (k + 1) es
theorem kindsI_at {hd : Str → Option D} {j : Nat} {fg : List Nat} {tab : CloTab} (hj : j ∈ fg) : ∀ (post pre : CloTab) (w : En) (acc : List D) (S : Sto), tab = pre ++ post → j < w.length →
    compI (gV j) tYesM (eKindV hd j fg tab) w (cloDs pre.length post) acc S = kindsI hd (wipeE w fg) (post.map (·.2.2.2)) acc S
  | [], pre, w, acc, S, _, _ => rfl
  | e :: post, pre, w, acc, S, ht, hl => by
    show (turnC (gV j) tYesM (eKindV hd j fg tab) w (.clo pre.length e.1 e.2.1 e.2.2.1) acc S).bindS _ = _
    have e1 : eKindV hd j fg tab (w.set j (some (.clo pre.length e.1 e.2.1 e.2.2.1))) S = kindM hd (e.2.2.2 (wipeE w fg) S) := by
      unfold eKindV
      rw [List.getElem?_set_self hl]
      have : tab[pre.length]? = some e := by rw [ht, List.getElem?_append_right (Nat.le_refl _), Nat.sub_self]; rfl
      simp [this, wipeE_set hj]
    have e2 : turnC (gV j) tYesM (eKindV hd j fg tab) w (.clo pre.length e.1 e.2.1 e.2.2.1) acc S = (kindM hd (e.2.2.2 (wipeE w fg) S)).bindS fun v S3 => if acc.length < 1000000 then .ok (acc ++ [v]) S3 else .stuck := by
      unfold turnC
      simp only [gV_at, tYesM_at]
      show (if true = true then (eKindV hd j fg tab (w.set j (some (.clo pre.length e.1 e.2.1 e.2.2.1))) S).bindS (fun v S3 => if acc.length < 1000000 then .ok (acc ++ [v]) S3 else .stuck) else Res.ok acc S) = _
      rw [if_pos rfl, e1]
    rw [e2]
    show _ = (kindM hd (e.2.2.2 (wipeE w fg) S)).bindS _
    cases kindM hd (e.2.2.2 (wipeE w fg) S) with
    | ok v S3 =>
      show Res.bindS (if acc.length < 1000000 then .ok (acc ++ [v]) S3 else .stuck) _ = if acc.length < 1000000 then _ else .stuck
      by_cases hc : acc.length < 1000000
      · rw [if_pos hc, if_pos hc]
        have := kindsI_at (hd := hd) (tab := tab) hj post (pre ++ [e]) w (acc ++ [v]) S3 (by rw [ht, List.append_assoc]; rfl) hl
        rw [List.length_append] at this
        exact this
      · rw [if_neg hc, if_neg hc]
        rfl
    | exc x S3 => rfl
    | stuck => rfl
/-- the whole comprehension -/
theorem eKinds_of {hd : Str → Option D} {j : Nat} {fg : List Nat} {tab : CloTab} {mi : MI} {env : En} {S : Sto} (hm : mi env S = .ok (.items (cloDs 0 tab)) S) (hl : j < env.length) (hj : j ∈ fg) :
    eComp mi (gV j) tYesM (eKindV hd j fg tab) [j] env S = eKinds hd fg (tab.map (·.2.2.2)) env S := by
  unfold eComp eKinds compR
  rw [hm]
  show (compI (gV j) tYesM (eKindV hd j fg tab) (wipeE env [j]) (cloDs 0 tab) [] S).bind _ = _
  have := kindsI_at (hd := hd) (tab := tab) hj tab [] (wipeE env [j]) [] S rfl (by rw [wipeE_length]; exact hl)
  rw [List.length_nil] at this
  rw [this, wipeE_wipe fun v hv => by rw [List.mem_singleton.mp hv]; exact hj]
theorem eKinds_set {hd : Str → Option D} {fg : List Nat} {ms : List ME} {env : En} {S : Sto} {i : Nat} {v : Option D} (hi : i ∈ fg) : eKinds hd fg ms (env.set i v) S = eKinds hd fg ms env S := by
  unfold eKinds
  rw [wipeE_set hi]
theorem kindsI_cases (hd : Str → Option D) (e : En) : ∀ (ms : List ME) (acc : List D) (S : Sto), (∃ ds S1, kindsI hd e ms acc S = .ok ds S1) ∨ kindsI hd e ms acc S = .stuck
  | [], acc, S => .inl ⟨_, _, rfl⟩
  | m :: ms, acc, S => by
    unfold kindsI
    cases kindM hd (m e S) with
    | ok v S3 =>
      show (∃ ds S1, (if acc.length < 1000000 then kindsI hd e ms (acc ++ [v]) S3 else .stuck) = .ok ds S1) ∨ (if acc.length < 1000000 then kindsI hd e ms (acc ++ [v]) S3 else .stuck) = .stuck
      by_cases hc : acc.length < 1000000
      · rw [if_pos hc]
        exact kindsI_cases hd e ms _ _
      · rw [if_neg hc]
        exact .inr rfl
    | exc x S3 => exact .inr rfl
    | stuck => exact .inr rfl
theorem eKinds_cases (hd : Str → Option D) (fg : List Nat) (ms : List ME) (env : En) (S : Sto) : (∃ d S1, eKinds hd fg ms env S = .ok d S1) ∨ eKinds hd fg ms env S = .stuck := by
  unfold eKinds
  rcases kindsI_cases hd (wipeE env fg) ms [] S with ⟨ds, S1, e⟩ | e
  · rw [e]; exact .inl ⟨_, _, rfl⟩
  · rw [e]; exact .inr rfl
theorem ofO_rs {α : Type} (S : Sto) (o : Option α) (env : En) (k : α → Sto → RS) : (ofO S o).rs env k = match o with | some a => k a S | none => .stuck := by cases o <;> rfl
/-- forgetting slots -/
def sFgt (fg : List Nat) : MS := fun env S => .next (wipeE env fg) S
def sGrd (n : Nat) (m : MS) : MS := fun env S => if env.length = n then m env S else .stuck
section
variable {X : Cx} {W : WX} {ss : List Stmt} {m m' : MS}
theorem sSs_fgt (fg : List Nat) (h : PSs X ss (tS X W m)) : PSs X ss (tS X W (sSeq (sFgt fg) m)) := pss_to h fun D σ H ⟨env, S, μ, rl, o⟩ => ⟨wipeE env fg, S, μ, ⟨relE_wipe1 fg rl.env, rl.sto⟩, o⟩
theorem sSs_grd (n : Nat) (h : PSs X ss (tS X W m)) : PSs X ss (tS X W (sGrd n m)) := pss_to h fun D σ H ⟨env, S, μ, rl, o⟩ => ⟨env, S, μ, rl, by
  unfold sGrd at o
  split at o
  · exact o
  · exact o.elim⟩
theorem sSs_eq (e : m = m') (h : PSs X ss (tS X W m)) : PSs X ss (tS X W m') := e ▸ h
theorem cl_nil {k : Nat} : ∀ e ∈ ([] : CloTab), CloOk X k e := fun e h => nomatch h
theorem cl_cons {k : Nat} {e : Bool × Str × (Value → Addr → Value → Value → Obj) × ME} {es : CloTab} (h : CloOk X k e) (hs : ∀ e ∈ es, CloOk X k e) : ∀ x ∈ e :: es, CloOk X k x := fun x hx => by
  rcases List.mem_cons.mp hx with rfl | hx
  · exact h
  · exact hs x hx
end
end DL

set_option Elab.async false
set_option linter.all false
set_option maxRecDepth 100000
/-! DL38: a list of lambdas that one is appended to; statements between that only go on. -/
namespace DL
open PySem PySem.Spec PyProof.Rows L2 LamX
mutual
/-- all places named are below n -/
def bndD (n : Nat) : D → Prop
  | .none => True
  | .bool _ => True
  | .int _ => True
  | .str _ => True
  | .ty _ => True
  | .tup xs => bndAll n xs
  | .lst xs => bndAll n xs
  | .ro xs => bndAll n xs
  | .loc l => l < n
  | .glo _ => True
  | .adr _ => True
  | .tpn xs => bndAll n xs
  | .clo _ _ _ _ => True
def bndAll (n : Nat) : List D → Prop
  | [] => True
  | d :: ds => bndD n d ∧ bndAll n ds
end
def bndO (n : Nat) : O → Prop
  | .lst xs => bndAll n xs
  | .dct _ kvs => bndAll n (kvs.map (·.2))
  | .ins _ fs => bndAll n (fs.map (·.2))
  | .fdc _ kvs => bndAll n (kvs.map (·.2))
theorem bndAll_app {n : Nat} : ∀ {xs ys : List D}, bndAll n xs → bndAll n ys → bndAll n (xs ++ ys)
  | [], _, _, h => h
  | x :: xs, ys, h, h2 => by
    rw [List.cons_append]
    unfold bndAll at h ⊢
    exact ⟨h.1, bndAll_app h.2 h2⟩
section
variable {K : PySem.W.Frag} {mg : Str → Option Value} {μ μ2 : Mu} {H : Hp}
mutual
theorem Rep.bnd : ∀ (d : D) (v : V), Rep K mg μ H d v → bndD μ.l.length d
  | .none, _, _ => by unfold bndD; trivial
  | .bool _, _, _ => by unfold bndD; trivial
  | .int _, _, _ => by unfold bndD; trivial
  | .str _, _, _ => by unfold bndD; trivial
  | .ty _, _, _ => by unfold bndD; trivial
  | .tup ds, _, h => by
    unfold Rep at h
    obtain ⟨a, vs, e, h1, n, h2⟩ := h
    unfold bndD
    exact RepAll.bnd ds vs h2
  | .lst ds, _, h => by
    unfold Rep at h
    obtain ⟨a, vs, e, h1, n, h2⟩ := h
    unfold bndD
    exact RepAll.bnd ds vs h2
  | .ro ds, _, h => by
    unfold Rep at h
    obtain ⟨a, vs, e, h1, h2⟩ := h
    unfold bndD
    exact RepAll.bnd ds vs h2
  | .loc l, _, h => by
    unfold Rep at h
    obtain ⟨a, e, h1⟩ := h
    unfold bndD
    exact (List.getElem?_eq_some_iff.mp h1).1
  | .glo _, _, _ => by unfold bndD; trivial
  | .adr _, _, _ => by unfold bndD; trivial
  | .clo _ _ _ _, _, _ => by unfold bndD; trivial
  | .tpn ds, _, h => by
    unfold Rep at h
    obtain ⟨a, vs, o, e, h1, n, h2⟩ := h
    unfold bndD
    exact RepAll.bnd ds vs h2
theorem RepAll.bnd : ∀ (ds : List D) (vs : List V), RepAll K mg μ H ds vs → bndAll μ.l.length ds
  | [], _, _ => by unfold bndAll; trivial
  | d :: ds, _, h => by
    unfold RepAll at h
    obtain ⟨v, r, e, h1, h2⟩ := h
    unfold bndAll
    exact ⟨Rep.bnd d v h1, RepAll.bnd ds r h2⟩
end
theorem SeqL.less (hin : ∀ a ∈ μ, a ∈ μ2) {a : Addr} {vs : List V} (h : SeqL K μ2 H a vs) : SeqL K μ H a vs := by
  rcases h with ⟨h, n⟩ | h
  · exact .inl ⟨h, fun z => n (hin a z)⟩
  · exact .inr h
mutual
/-- what leans on nothing new may do without it -/
theorem Rep.less (hp : ∃ t, μ2.l = μ.l ++ t) (hin : ∀ a ∈ μ, a ∈ μ2) : ∀ (d : D) (v : V), Rep K mg μ2 H d v → bndD μ.l.length d → Rep K mg μ H d v
  | .none, _, h, _ => by unfold Rep at *; exact h
  | .bool _, _, h, _ => by unfold Rep at *; exact h
  | .int _, _, h, _ => by unfold Rep at *; exact h
  | .str _, _, h, _ => by unfold Rep at *; exact h
  | .ty _, _, h, _ => by unfold Rep at *; exact h
  | .tup ds, _, h, b => by
    unfold Rep at *
    unfold bndD at b
    obtain ⟨a, vs, e, h1, n, h2⟩ := h
    exact ⟨a, vs, e, h1, fun z => n (hin a z), RepAll.less hp hin ds vs h2 b⟩
  | .lst ds, _, h, b => by
    unfold Rep at *
    unfold bndD at b
    obtain ⟨a, vs, e, h1, n, h2⟩ := h
    exact ⟨a, vs, e, h1, fun z => n (hin a z), RepAll.less hp hin ds vs h2 b⟩
  | .ro ds, _, h, b => by
    unfold Rep at *
    unfold bndD at b
    obtain ⟨a, vs, e, h1, h2⟩ := h
    exact ⟨a, vs, e, h1.less hin, RepAll.less hp hin ds vs h2 b⟩
  | .loc l, _, h, b => by
    unfold Rep at *
    unfold bndD at b
    obtain ⟨a, e, h1⟩ := h
    obtain ⟨t, ht⟩ := hp
    rw [ht, List.getElem?_append_left b] at h1
    exact ⟨a, e, h1⟩
  | .glo _, _, h, _ => by unfold Rep at *; exact h
  | .adr _, _, h, _ => by unfold Rep at *; exact h
  | .clo _ _ _ _, _, h, _ => by
    unfold Rep at *
    obtain ⟨f, c', pm, ctv, dv, e, ⟨h1, n1⟩, ⟨h2, n2⟩, h3⟩ := h
    refine ⟨f, c', pm, ctv, dv, e, ⟨h1, fun z => n1 (hin _ z)⟩, ⟨h2, fun z => n2 (hin _ z)⟩, fun hb => ?_⟩
    obtain ⟨T, h3, h4, h5⟩ := h3 hb
    exact ⟨T, h3, h4, fun z => h5 (hin _ z)⟩
  | .tpn ds, _, h, b => by
    unfold Rep at *
    unfold bndD at b
    obtain ⟨a, vs, o, e, h1, n, h2⟩ := h
    exact ⟨a, vs, o, e, h1, fun z => n (hin a z), RepAll.less hp hin ds vs h2 b⟩
theorem RepAll.less (hp : ∃ t, μ2.l = μ.l ++ t) (hin : ∀ a ∈ μ, a ∈ μ2) : ∀ (ds : List D) (vs : List V), RepAll K mg μ2 H ds vs → bndAll μ.l.length ds → RepAll K mg μ H ds vs
  | [], _, h, _ => by unfold RepAll at *; exact h
  | d :: ds, _, h, b => by
    unfold RepAll at *
    unfold bndAll at b
    obtain ⟨v, r, e, h1, h2⟩ := h
    exact ⟨v, r, e, Rep.less hp hin d v h1 b.1, RepAll.less hp hin ds r h2 b.2⟩
end
theorem RepO.bnd {o : O} {a : Addr} (h : RepO K mg μ H o a) : bndO μ.l.length o := by
  cases o with
  | lst ds => obtain ⟨vs, _, h⟩ := h; exact h.bnd
  | dct t kvs => cases t <;> (obtain ⟨vs, ks, _, h⟩ := h; exact h.bnd)
  | ins C fs => obtain ⟨Ca, dx, vs, _, _, h⟩ := h; exact h.bnd
  | fdc t kvs => cases t <;> (obtain ⟨vs, ks, _, h⟩ := h; exact h.bnd)
theorem RepO.less (hp : ∃ t, μ2.l = μ.l ++ t) (hin : ∀ a ∈ μ, a ∈ μ2) {o : O} {a : Addr} (h : RepO K mg μ2 H o a) (b : bndO μ.l.length o) : RepO K mg μ H o a := by
  cases o with
  | lst ds => obtain ⟨vs, h1, h⟩ := h; exact ⟨vs, h1, h.less hp hin _ _ b⟩
  | dct t kvs => cases t <;> (obtain ⟨vs, ks, h1, h⟩ := h; exact ⟨vs, ks, h1, h.less hp hin _ _ b⟩)
  | ins C fs => obtain ⟨Ca, dx, vs, h1, h2, h⟩ := h; exact ⟨Ca, dx, vs, h1, h2, h.less hp hin _ _ b⟩
  | fdc t kvs => cases t <;> (obtain ⟨vs, ks, h1, h⟩ := h; exact ⟨vs, ks, h1, h.less hp hin _ _ b⟩)
theorem RelS.less {S S2 : Sto} (rs : RelS K mg μ H S) {H2 : Hp} (rs2 : RelS K mg μ2 H2 (S ++ S2)) (hp : ∃ t, μ2.l = μ.l ++ t) (hh : μ2.h = μ.h) : RelS K mg μ H2 S := by
  have hin : ∀ a ∈ μ, a ∈ μ2 := fun a ha => by
    obtain ⟨t, ht⟩ := hp
    rcases ha with ha | ha
    · exact .inl (by rw [ht]; exact List.mem_append_left _ ha)
    · exact .inr (by rw [hh]; exact ha)
  refine ⟨rs.len, rs.nd, rs.dis, fun a ha => rs2.hid a (by rw [hh]; exact ha), fun l o e => ?_, rs2.tab⟩
  have hl := (List.getElem?_eq_some_iff.mp e).1
  obtain ⟨a0, _, r0⟩ := rs.at_ l o e
  obtain ⟨a, h1, r⟩ := rs2.at_ l o (by rw [List.getElem?_append_left hl]; exact e)
  obtain ⟨t, ht⟩ := hp
  refine ⟨a, ?_, r.less ⟨t, ht⟩ hin r0.bnd⟩
  rw [ht, List.getElem?_append_left (by rw [← rs.len]; exact hl)] at h1
  exact h1
end
/-- x = x + cs, one more appended; x is a list that nobody else holds -/
def sCatApp (i : Nat) (cs : List D) (c : D) : MS := fun env S => match env[i]? with
  | some (some (.lst xs)) => if xs.length + (cs ++ [c]).length ≤ 1000000 then .next (env.set i (some (.lst (xs ++ (cs ++ [c]))))) S else .stuck
  | _ => .stuck
section
variable {X : Cx} {W : WX}
/-- some things, as they are -/
def aD (cs : List D) : MA := fun _ S => .ok cs S
theorem sA_nilC : PA X [] (tAs X W (aD [])) := sA_nil
theorem sA_cloC {e : Expr} {es : List Expr} {k : Nat} {b : Bool} {q : Str} {F : Value → Addr → Value → Value → Obj} {cs : List D} (he : PE X e (tE X W (eClo k b q F))) (hr : PA X es (tAs X W (aD cs))) (hs : starEach (e :: es) X.env = (false, eval e X.env) :: starEach es X.env := by rfl) : PA X (e :: es) (tAs X W (aD (.clo k b q F :: cs))) := sA_cons he hr hs
theorem sSs_catApp {i : Nat} {s1 s2 : Stmt} {rest : List Stmt} {m : MS} {cs : List D} {k : Nat} {b : Bool} {q : Str} {F : Value → Addr → Value → Value → Obj}
    (h1 : PS X s1 (tS X W (sSet i (eCatM (eV i) (eLst (aD cs)))))) (h2 : PS X s2 (tS X W (sExpr (eM isLstB bAppend (eV i) (aCons (eClo k b q F) aNil))))) (h3 : PSs X rest (tS X W m))
    (bc : ∀ n, bndAll n cs := by intro n; simp [bndAll, bndD]) :
    PSs X (s1 :: s2 :: rest) (tS X W (sSeq (sCatApp i cs (.clo k b q F)) m)) :=
  have ha : ∀ env S, (aD cs) env S = .ok cs S := fun _ _ => rfl
  have bl : ∀ n, bndD n (.clo k b q F) := fun n => by unfold bndD; trivial
  pss_to (pss_cons h1 (pss_cons h2 h3)) fun D σ H ⟨env, S, μ, rl, o⟩ => by
    unfold sSeq sCatApp at o
    split at o
    · rename_i xs he
      split at o
      · rename_i hz
        rw [List.length_append, List.length_singleton] at hz
        have o : OutS X.K X.mg W μ H D (m (env.set i (some (.lst (xs ++ (cs ++ [.clo k b q F]))))) S) := o
        have hi : i < env.length := (List.getElem?_eq_some_iff.mp he).1
        refine ⟨env, S, μ, rl, ?_⟩
        have e1 : sSet i (eCatM (eV i) (eLst (aD cs))) env S = .next (env.set i (some (.loc S.length))) (S ++ [.lst (xs ++ cs)]) := by
          simp [sSet, eCatM, eLst, eV, he, ha, Res.bind, Res.rs, show cs.length ≤ 1000000 by omega, show xs.length + cs.length ≤ 1000000 by omega]
        rw [e1]
        rintro μ1 H1 σ1 st1 re1 rs1
        refine ⟨_, _, μ1, ⟨re1, rs1⟩, ?_⟩
        have e2 : sExpr (eM isLstB bAppend (eV i) (aCons (eClo k b q F) aNil)) (env.set i (some (.loc S.length))) (S ++ [.lst (xs ++ cs)]) = .next (env.set i (some (.loc S.length))) (S ++ [.lst (xs ++ cs ++ [.clo k b q F])]) := by
          have hset : (S ++ [O.lst (xs ++ cs)]).set S.length (.lst (xs ++ cs ++ [.clo k b q F])) = S ++ [.lst (xs ++ cs ++ [.clo k b q F])] := by simp
          have hv : isLstB (S ++ [O.lst (xs ++ cs)]) (.loc S.length) = true := by simp [isLstB, view, view0, vt]
          simp [sExpr, eM, eV, hi, aCons, aNil, eClo, Res.bind, Res.rs, bAppend, hv, show xs.length + cs.length < 1000000 by omega]
        rw [e2]
        rintro μ2 H2 σ2 st2 re2 rs2
        have st := st1.trans st2
        obtain ⟨t, ht⟩ := st.pre
        have hh := st.hid
        have hin : ∀ a ∈ μ, a ∈ μ2 := fun a ha => by
          rcases ha with ha | ha
          · exact .inl (by rw [ht]; exact List.mem_append_left _ ha)
          · exact .inr (by rw [hh]; exact ha)
        have rsN := rl.sto.less rs2 ⟨t, ht⟩ hh
        have stN : Step μ H μ H2 := ⟨⟨⟨⟨[], by simp⟩, fun _ h => .inl h, st.keep'⟩, st.kf⟩, rfl, st.hk'⟩
        refine ⟨env.set i (some (.lst (xs ++ (cs ++ [.clo k b q F])))), S, μ, ⟨⟨?_, fun j d e => ?_⟩, rsN⟩, OutS.of_step stN o⟩
        · have := re2.len
          simpa using this
        · by_cases hij : i = j
          · subst hij
            rw [List.getElem?_set_self hi] at e
            cases e
            obtain ⟨v, h1, h2⟩ := re2.at_ i (.loc S.length) (List.getElem?_set_self hi)
            refine ⟨v, h1, ?_⟩
            unfold Rep at h2
            obtain ⟨a, rfl, ha2⟩ := h2
            obtain ⟨a', h4, vs, h5, h6⟩ := rs2.at_ S.length (.lst (xs ++ cs ++ [.clo k b q F])) (by simp)
            rw [ha2] at h4
            cases h4
            unfold Rep
            have hnl : a ∉ μ.l := fun z => by
              have nd := rs2.nd
              have := ha2
              rw [ht] at nd this
              rw [List.getElem?_append_right (by rw [← rl.sto.len]; exact Nat.le_refl _)] at this
              exact (List.nodup_append.mp nd).2.2 a z a (List.mem_of_getElem? this) rfl
            have hnh : a ∉ μ.h := fun z => rs2.dis a (List.mem_of_getElem? ha2) (by rw [hh]; exact z)
            have hxs : bndAll μ.l.length xs := by
              obtain ⟨v0, _, r0⟩ := rl.env.at_ i _ he
              have := Rep.bnd _ _ r0
              unfold bndD at this
              exact this
            rw [List.append_assoc] at h6
            refine ⟨a, vs, rfl, h5, fun z => z.elim hnl hnh, RepAll.less ⟨t, ht⟩ hin _ _ h6 (bndAll_app hxs (bndAll_app (bc _) ?_))⟩
            unfold bndAll
            exact ⟨bl _, by unfold bndAll; trivial⟩
          · rw [List.getElem?_set_ne hij] at e
            obtain ⟨v0, _, r0⟩ := rl.env.at_ j d e
            obtain ⟨v, h1, h2⟩ := re2.at_ j d (by rw [List.getElem?_set_ne hij]; exact e)
            exact ⟨v, h1, Rep.less ⟨t, ht⟩ hin _ _ h2 (Rep.bnd _ _ r0)⟩
      · exact o.elim
    · exact o.elim
/-- a statement that only goes on -/
def sNxt (m : MS) : MS := fun env S => match m env S with
  | .next e S => .next e S
  | _ => .stuck
theorem sNxt_set {g : Nat} {m : ME} {env : En} {S : Sto} : sNxt (sSet g m) env S = match m env S with
  | .ok d S' => .next (env.set g (some d)) S'
  | _ => .stuck := by
  unfold sNxt sSet
  cases m env S <;> rfl
theorem sSeq_to (a b : MS) (env : En) (S : Sto) : sSeq a b env S = (a env S).andThen b := rfl
theorem andThen_to (env : En) (S : Sto) (k : En → Sto → RS) : RS.andThen (.next env S) k = k env S := rfl
theorem fin_if (c : Prop) [Decidable c] (b : Bool) (r : D) (S : Sto) (e1 e2 : En) (m1 m2 : MS) (h : m1 e1 S = m2 e2 S) :
    (Res.rs e1 ((ofO S (if c then some (D.bool b) else none)).bind fun d S => match d with
      | .bool b => .ok b S
      | _ => .stuck) fun c S => if c = true then RS.ret r S else RS.next e1 S).andThen m1 =
    (Res.rs e2 ((ofO S (if c then some (D.bool b) else none)).bind fun d S => match d with
      | .bool b => .ok b S
      | _ => .stuck) fun c S => if c = true then RS.ret r S else RS.next e2 S).andThen m2 := by
  by_cases hc : c
  · rw [if_pos hc]
    cases b with
    | true => rfl
    | false => exact h
  · rw [if_neg hc]; rfl
theorem sS_nxt {s : Stmt} {m : MS} (h : PS X s (tS X W m)) : PS X s (tS X W (sNxt m)) := ps_to h fun D σ H ⟨env, S, μ, rl, o⟩ => ⟨env, S, μ, rl, by
  unfold sNxt at o
  split at o
  · rename_i e S' eq
    rw [eq]
    exact o
  · exact o.elim⟩
end
end DL

set_option Elab.async false
set_option linter.all false
set_option maxRecDepth 100000
/-! DL39: xs[::2]; xs * n. -/
namespace DL
open PySem PySem.Spec PyProof.Rows L2
/-- those at some places -/
def pickN {α : Type} (is : List Nat) (xs : List α) : List α := is.filterMap (xs[·]?)
def twos (n : Nat) : List Nat := (List.range ((n + 1) / 2)).map (2 * ·)
theorem vals_pick {xs : List V} {us : List Value} (h : Vals xs us) : ∀ is : List Nat, Vals (pickN is xs) (pickN is us)
  | [] => .nil
  | i :: is => by
    unfold pickN
    rw [List.filterMap_cons, List.filterMap_cons]
    cases e : xs[i]? with
    | none => rw [h.none_of e]; exact vals_pick h is
    | some x =>
      obtain ⟨u, e2, r⟩ := h.get e
      rw [e2]
      exact .cons r (vals_pick h is)
theorem RepAll.pick {K : PySem.W.Frag} {mg : Str → Option Value} {μ : Mu} {H : Hp} {ds : List D} {vs : List V} (h : RepAll K mg μ H ds vs) : ∀ is : List Nat, RepAll K mg μ H (pickN is ds) (pickN is vs)
  | [] => .nil
  | i :: is => by
    unfold pickN
    rw [List.filterMap_cons, List.filterMap_cons]
    cases e : ds[i]? with
    | none =>
      rw [List.getElem?_eq_none (by have := h.length; have := List.getElem?_eq_none_iff.mp e; omega)]
      exact RepAll.pick h is
    | some d =>
      obtain ⟨v, e2, r⟩ := h.get e
      rw [e2]
      exact .cons r (RepAll.pick h is)
theorem twos_len {α : Type} (xs : List α) : (pickN (twos xs.length) xs).length ≤ xs.length := by
  unfold pickN
  refine Nat.le_trans (List.length_filterMap_le _ _) ?_
  unfold twos
  rw [List.length_map, List.length_range]
  omega
theorem pick_two (its : List Value) : slicePick its.toArray none none (some 2) = (pickN (twos its.length) its).toArray := by
  unfold slicePick
  have hb : sliceBounds none none (some 2) its.toArray.size = (0, (its.length : Int), 2) := by simp [sliceBounds]
  rw [hb]
  have hr : sliceRange 0 (its.length : Int) 2 = twos its.length := by
    unfold sliceRange twos
    have hc : (if (2 : Int) > 0 then (if (0 : Int) < (its.length : Int) then ((its.length : Int) - 0 + 2 - 1) / 2 else 0) else (if (0 : Int) > (its.length : Int) then (0 - (its.length : Int) - 2 - 1) / (-2) else 0)) = (((its.length + 1) / 2 : Nat) : Int) := by
      rw [if_pos (by decide)]
      by_cases h : (0 : Int) < (its.length : Int)
      · rw [if_pos h]; omega
      · rw [if_neg h]; omega
    simp only [hc, Int.toNat_natCast]
    apply List.map_congr_left
    intro k _
    omega
  simp only [hr]
  unfold pickN
  congr 1
  refine congrArg (fun f => List.filterMap f _) (funext fun i => ?_)
  simp
def eStep2 (m : ME) : ME := fun env S => (m env S).bind fun d S => match view S d with
  | .lst xs => .ok (.lst (pickN (twos xs.length) xs)) S
  | _ => .stuck
section
variable {X : Cx} {W : WX}
def tStep2 (K : PySem.W.Frag) (te : TE) : TE := fun σ H Q => te σ H fun x H1 => ∃ a xs, x = .ref a ∧ SqL K H1 a xs ∧ ∀ p, H1 p = none → Q (.ref p) (upd H1 p (.lst (pickN (twos xs.length) xs)))
theorem pe_step2 {e st : Expr} {te : TE} {p3 pos : Pos} (he : PE X e te) (hst : ∀ σ H, ∃ t, PE X st t ∧ t σ H fun v H' => v = .int 2 ∧ H' = H) : PE X (.Subscript e (.Slice none none (some st) p3) pos) (tStep2 X.K te) := by
  refine ⟨fun pins s σ H Q I h => ?_⟩
  refine Subscript_ (thn (he.run pins s σ H _ I h) fun v s1 ⟨x, H1, I1, r1, q1⟩ => ?_)
  obtain ⟨a, xs, ex, hx, q⟩ := q1
  subst ex
  cases r1
  refine wpAny_Slice (thn (po_none.run pins s1 σ H1 (fun o H2 => o = none ∧ H2 = H1) I1 ⟨rfl, rfl⟩) fun vl s2 ⟨l, H2, I2, pl, el, e2⟩ => ?_)
  subst el e2
  refine thn (po_none.run pins s2 σ H2 (fun o H3 => o = none ∧ H3 = H2) I2 ⟨rfl, rfl⟩) fun vu s3 ⟨u, H3, I3, pu, eu, e3⟩ => ?_
  subst eu e3
  obtain ⟨t, ht, hq⟩ := hst σ H3
  refine thn (ht.run pins s3 σ H3 _ I3 hq) fun vs s4 ⟨o, H4, I4, ps, eo, e4⟩ => ?_
  subst eo e4
  obtain ⟨tk, ps⟩ := ps
  have ps' : IsPart vs (some 2) := by rw [ps]; exact .int _ _
  have I5 : Inv X pins σ H4 { s4 with heap := s4.heap.push { cls := .type "slice", data := .fields #[vl, vu, vs] } } := I4.kept (t' := s4.toks) fun b ob q => Heap.get?_push_of_some _ q
  obtain ⟨its, r, ht, hz⟩ := I5.list hx
  have hlen := r.length
  show wpAny (model X.prog X.w) X.A (subscriptTail e (.Slice none none (some st) p3) (.ref a) (.ref s4.heap.objs.size)) (EP X pins σ Q) X.xe { s4 with heap := s4.heap.push { cls := .type "slice", data := .fields #[vl, vu, vs] } }
  refine tail_any (ops := [.ref a, .ref s4.heap.objs.size]) ht.isList.typeIs (PySem.slot_list_getitem.lookup) ?_ (by with_unfolding_all rfl)
  refine wpAny_getItem_list_slice ht.isList (Heap.IsSliceOf.new _ vl vu vs) pl pu ps' (by decide) ?_ (by rw [List.size_toArray]; omega)
  rw [pick_two]
  have rp := vals_pick r (twos its.length)
  rw [← hlen] at rp
  refine ⟨.ref _, _, I5.laid (t' := s4.toks) (o := .lst (pickN (twos xs.length) xs)) (fun b ob q => Heap.get?_push_of_some _ q) (Nat.le_refl _) ?_, rfl, q _ (I5.hok.fresh (Nat.le_refl _))⟩
  rw [← hlen]
  exact ⟨Nat.le_trans (twos_len xs) hz, _, 0, rp, Heap.get?_push_size _ rfl⟩
/-- xs[::2] -/
theorem sE_step2 {e : Expr} {m : ME} {k : Nat} {p1 p3 pos : Pos} (he : PE X e (tE X W m)) : PE X (.Subscript e (.Slice none none (some (.Constant (.int 2) k p1)) p3) pos) (tE X W (eStep2 m)) :=
  pe_to (pe_step2 he fun σ H => ⟨_, pe_int, ⟨rfl, rfl⟩⟩) fun σ H Q ⟨env, S, μ, rl, o⟩ => by
    refine ⟨env, S, μ, rl, (Out.bind o).mono fun x H1 ⟨μ1, S1, d, st, rs, rd, o1⟩ => ?_⟩
    have rw0 := rs.view rd
    split at o1
    · rename_i xs ev
      rw [ev] at rw0
      obtain ⟨a, vs, rfl, h1, h2⟩ := rw0
      have hl := h2.length
      refine ⟨a, vs, rfl, .of h1, fun p hp => o1 μ1 _ (.ref p) (.of_sm (.upd hp)) (rs.sm (.upd hp)) (rep_new_lst rs hp ?_)⟩
      rw [← hl]
      exact h2.pick _
    · exact o1.elim
/-! ### xs * n -/
def dRep : D → D → Option D
  | .lst xs, .int k => if 0 ≤ k ∧ k ≤ 1000 ∧ xs.length * k.toNat ≤ 1000000 then some (.lst (List.replicate k.toNat xs).flatten) else none
  | _, _ => none
@[simp] theorem dRep_at (xs : List D) (k : Int) : dRep (.lst xs) (.int k) = if 0 ≤ k ∧ k ≤ 1000 ∧ xs.length * k.toNat ≤ 1000000 then some (.lst (List.replicate k.toNat xs).flatten) else none := rfl
theorem RepAll.rep {K : PySem.W.Frag} {mg : Str → Option Value} {μ : Mu} {H : Hp} {ds : List D} {vs : List V} (h : RepAll K mg μ H ds vs) : ∀ k : Nat, RepAll K mg μ H (List.replicate k ds).flatten (List.replicate k vs).flatten
  | 0 => .nil
  | k + 1 => by
    rw [List.replicate_succ, List.replicate_succ, List.flatten_cons, List.flatten_cons]
    exact h.append (RepAll.rep h k)
theorem o_rep : OpR X (binaryOp .Mult) (rP X.K X.mg dRep) := fun pins s σ H x y v u Q I rx ry ⟨μ, S, a, b, d, rs, ra, rb, e, q⟩ =>
  op_rep pins s σ H x y v u Q I rx ry (by
    have wa := rs.view ra
    have wb := rs.view rb
    unfold lv at e
    generalize view S a = va at e wa
    generalize view S b = vb at e wb
    unfold dRep at e
    split at e
    · rename_i xs k
      split at e
      · rename_i hk
        cases e
        obtain ⟨ad, vs, rfl, h1, h2⟩ := wa
        have hv := wb.int
        subst hv
        exact ⟨ad, k, vs, rfl, rfl, h1, by omega, by omega, by rw [← h2.length]; exact line_big hk.2.2, fun p hp => q _ _ (.upd hp) (rep_new_lst rs hp (h2.rep _))⟩
      · cases e
    · cases e)
end
end DL

set_option Elab.async false
set_option linter.all false
set_option maxRecDepth 100000
set_option maxHeartbeats 4000000
/-! The mirror of the program and of the law, and each def's derivation. Printed by gen.py. -/
namespace DL
open PySem PySem.Spec PyProof.Rows L2 LamX
abbrev top (i : Nat) : Stmt := PySem.Challenge.pw_airhouse_k07_duties.main.body.getD i (.Pass ⟨0, 0, 0, 0⟩)
def fuelW : Nat := 1000000000000
noncomputable section

/-- what the head tells of the names -/
def kindsHere : List Str := ["BadChain", "NoLeg", "NoDuty"]
abbrev lvKind : Nat := 13
structure Fx (K : PySem.W.Frag) (mg : Str → Option Value) : Prop where
  a_Net_changes : NoAttr K (He.ga K "Net") "changes"
  a_Net_legs : NoAttr K (He.ga K "Net") "legs"
  c_Net : Cls K (He.ga K "Net")
  d_BadChain : mg "BadChain" = some (.ref (He.ga K "BadChain"))
  d_BadClasses : mg "BadClasses" = some (.ref (He.ga K "BadClasses"))
  d_BadCount : mg "BadCount" = some (.ref (He.ga K "BadCount"))
  d_BadDay : mg "BadDay" = some (.ref (He.ga K "BadDay"))
  d_BadDeed : mg "BadDeed" = some (.ref (He.ga K "BadDeed"))
  d_BadFleet : mg "BadFleet" = some (.ref (He.ga K "BadFleet"))
  d_BadName : mg "BadName" = some (.ref (He.ga K "BadName"))
  d_BadNet : mg "BadNet" = some (.ref (He.ga K "BadNet"))
  d_BadPlace : mg "BadPlace" = some (.ref (He.ga K "BadPlace"))
  d_BadText : mg "BadText" = some (.ref (He.ga K "BadText"))
  d_BadTime : mg "BadTime" = some (.ref (He.ga K "BadTime"))
  d_CannotFly : mg "CannotFly" = some (.ref (He.ga K "CannotFly"))
  d_Left : mg "Left" = some (.ref (He.ga K "Left"))
  d_Net : mg "Net" = some (.ref (He.ga K "Net"))
  d_NoBooking : mg "NoBooking" = some (.ref (He.ga K "NoBooking"))
  d_NoClass : mg "NoClass" = some (.ref (He.ga K "NoClass"))
  d_NoDuty : mg "NoDuty" = some (.ref (He.ga K "NoDuty"))
  d_NoKind : mg "NoKind" = some (.ref (He.ga K "NoKind"))
  d_NoLeg : mg "NoLeg" = some (.ref (He.ga K "NoLeg"))
  d_NoPlane : mg "NoPlane" = some (.ref (He.ga K "NoPlane"))
  d_NoSeat : mg "NoSeat" = some (.ref (He.ga K "NoSeat"))
  d_NoWay : mg "NoWay" = some (.ref (He.ga K "NoWay"))
  d_Taken : mg "Taken" = some (.ref (He.ga K "Taken"))
  d_Unmended : mg "Unmended" = some (.ref (He.ga K "Unmended"))
  d__law_chain : mg "_law_chain" = some (.ref (He.ga K "_law_chain"))
  d__law_cut : mg "_law_cut" = some (.ref (He.ga K "_law_cut"))
  d__law_drawn : mg "_law_drawn" = some (.ref (He.ga K "_law_drawn"))
  d__law_kind : mg "_law_kind" = some (.ref (He.ga K "_law_kind"))
  d__law_leave : mg "_law_leave" = some (.ref (He.ga K "_law_leave"))
  d__law_leg : mg "_law_leg" = some (.ref (He.ga K "_law_leg"))
  d__law_net : mg "_law_net" = some (.ref (He.ga K "_law_net"))
  d__law_rested : mg "_law_rested" = some (.ref (He.ga K "_law_rested"))
  d__law_rides : mg "_law_rides" = some (.ref (He.ga K "_law_rides"))
  d__law_same : mg "_law_same" = some (.ref (He.ga K "_law_same"))
  d__law_shuttle : mg "_law_shuttle" = some (.ref (He.ga K "_law_shuttle"))
  d__law_start : mg "_law_start" = some (.ref (He.ga K "_law_start"))
  d__law_times : mg "_law_times" = some (.ref (He.ga K "_law_times"))
  d__law_word : mg "_law_word" = some (.ref (He.ga K "_law_word"))
  d_are_days : mg "are_days" = some (.ref (He.ga K "are_days"))
  d_cut : mg "cut" = some (.ref (He.ga K "cut"))
  d_duty_word : mg "duty_word" = some (.ref (He.ga K "duty_word"))
  d_is_leg : mg "is_leg" = some (.ref (He.ga K "is_leg"))
  d_is_number : mg "is_number" = some (.ref (He.ga K "is_number"))
  d_is_place : mg "is_place" = some (.ref (He.ga K "is_place"))
  d_is_word : mg "is_word" = some (.ref (He.ga K "is_word"))
  d_judged_duty : mg "judged_duty" = some (.ref (He.ga K "judged_duty"))
  d_need_net : mg "need_net" = some (.ref (He.ga K "need_net"))
  d_need_rides : mg "need_rides" = some (.ref (He.ga K "need_rides"))
  d_rested : mg "rested" = some (.ref (He.ga K "rested"))
  i_AHEAD : ∃ t, mg "AHEAD" = some (.int 60 t)
  i_BEHIND : ∃ t, mg "BEHIND" = some (.int 30 t)
  i_DAY : ∃ t, mg "DAY" = some (.int 1440 t)
  i_GAP : ∃ t, mg "GAP" = some (.int 30 t)
  i_LEAST_CHANGE : ∃ t, mg "LEAST_CHANGE" = some (.int 10 t)
  i_LEAST_LONG : ∃ t, mg "LEAST_LONG" = some (.int 20 t)
  i_LEAST_REST : ∃ t, mg "LEAST_REST" = some (.int 600 t)
  i_MOST_CHANGE : ∃ t, mg "MOST_CHANGE" = some (.int 300 t)
  i_MOST_DAY : ∃ t, mg "MOST_DAY" = some (.int 60 t)
  i_MOST_DUTY : ∃ t, mg "MOST_DUTY" = some (.int 840 t)
  i_MOST_DUTY_LEGS : ∃ t, mg "MOST_DUTY_LEGS" = some (.int 4 t)
  i_MOST_FARE : ∃ t, mg "MOST_FARE" = some (.int 100000 t)
  i_MOST_FLOWN : ∃ t, mg "MOST_FLOWN" = some (.int 540 t)
  i_MOST_LEGS : ∃ t, mg "MOST_LEGS" = some (.int 60 t)
  i_MOST_LONG : ∃ t, mg "MOST_LONG" = some (.int 900 t)
  i_MOST_NUMBER : ∃ t, mg "MOST_NUMBER" = some (.int 9999 t)
  i_MOST_PLACES : ∃ t, mg "MOST_PLACES" = some (.int 12 t)
  i_PLACE_SIZE : ∃ t, mg "PLACE_SIZE" = some (.int 3 t)
  i_WEEK : ∃ t, mg "WEEK" = some (.int 7 t)
  k_Net : Mk K (He.ga K "Net") (He.ma K (He.ga K "Net") "__init__")
  m_Net_arrive : Meth K (He.ga K "Net") "arrive" (He.ma K (He.ga K "Net") "arrive")
  m_Net_goal : Meth K (He.ga K "Net") "goal" (He.ma K (He.ga K "Net") "goal")
  m_Net_goes : Meth K (He.ga K "Net") "goes" (He.ma K (He.ga K "Net") "goes")
  m_Net_leave : Meth K (He.ga K "Net") "leave" (He.ma K (He.ga K "Net") "leave")
  m_Net_long : Meth K (He.ga K "Net") "long" (He.ma K (He.ga K "Net") "long")
  m_Net_need_ride : Meth K (He.ga K "Net") "need_ride" (He.ma K (He.ga K "Net") "need_ride")
  m_Net_start : Meth K (He.ga K "Net") "start" (He.ma K (He.ga K "Net") "start")
  n_ValueError : mg "ValueError" = none
  n_all : mg "all" = none
  n_bool : mg "bool" = none
  n_dict : mg "dict" = none
  n_enumerate : mg "enumerate" = none
  n_int : mg "int" = none
  n_isinstance : mg "isinstance" = none
  n_len : mg "len" = none
  n_list : mg "list" = none
  n_max : mg "max" = none
  n_min : mg "min" = none
  n_range : mg "range" = none
  n_sorted : mg "sorted" = none
  n_str : mg "str" = none
  n_sum : mg "sum" = none
  n_tuple : mg "tuple" = none
  n_zip : mg "zip" = none
  s_LETTERS : ∃ t, mg "LETTERS" = some (.str "abcdefghijklmnopqrstuvwxyz" t)
  x_BadChain : ExcF K (He.ga K "BadChain")
  x_NoDuty : ExcF K (He.ga K "NoDuty")
  x_NoLeg : ExcF K (He.ga K "NoLeg")
structure Gx (P : Program) (w : World) (K : PySem.W.Frag) (mg : Str → Option Value) (base : Heap) : Prop where
  fx : Fx K mg
  kx : KindFx K mg kindsHere
  tb : ∀ p ∈ lamDefs, TabB base mg (He.cT K p.1).1 (He.cT K p.1).2
  tm : ∀ p ∈ lamDefs, ((He.cT K p.1).2, p.2) ∈ tbs K
  tu : ∀ p ∈ lamDefs, ∀ r ∈ tbs K, r.1 = (He.cT K p.1).2 → r.2 = p.2
  f_law_drawn : ∃ fd, FunD K "_law_drawn" "_law_drawn" (defArgs (top 62)) (defBody (top 62)) (defScope (top 62)) [] [] (He.ga K "_law_drawn") fd
  f_Net_leave : ∃ fd, FunD K "leave" "Net.leave" (defArgs (inClass (top 46) 7)) (defBody (inClass (top 46) 7)) (defScope (inClass (top 46) 7)) [] [] (He.ma K (He.ga K "Net") "leave") fd
  f_Net_long : ∃ fd, FunD K "long" "Net.long" (defArgs (inClass (top 46) 5)) (defBody (inClass (top 46) 5)) (defScope (inClass (top 46) 5)) [] [] (He.ma K (He.ga K "Net") "long") fd
  f_Net_arrive : ∃ fd, FunD K "arrive" "Net.arrive" (defArgs (inClass (top 46) 8)) (defBody (inClass (top 46) 8)) (defScope (inClass (top 46) 8)) [] [] (He.ma K (He.ga K "Net") "arrive") fd
  f_Net_goal : ∃ fd, FunD K "goal" "Net.goal" (defArgs (inClass (top 46) 4)) (defBody (inClass (top 46) 4)) (defScope (inClass (top 46) 4)) [] [] (He.ma K (He.ga K "Net") "goal") fd
  f_Net_start : ∃ fd, FunD K "start" "Net.start" (defArgs (inClass (top 46) 3)) (defBody (inClass (top 46) 3)) (defScope (inClass (top 46) 3)) [] [] (He.ma K (He.ga K "Net") "start") fd
  f_duty_word : ∃ fd, FunD K "duty_word" "duty_word" (defArgs (top 56)) (defBody (top 56)) (defScope (top 56)) [] [] (He.ga K "duty_word") fd
  f_is_number : ∃ fd, FunD K "is_number" "is_number" (defArgs (top 40)) (defBody (top 40)) (defScope (top 40)) [] [] (He.ga K "is_number") fd
  f_Net_goes : ∃ fd, FunD K "goes" "Net.goes" (defArgs (inClass (top 46) 1)) (defBody (inClass (top 46) 1)) (defScope (inClass (top 46) 1)) [] [] (He.ma K (He.ga K "Net") "goes") fd
  f_Net_need_ride : ∃ fd, FunD K "need_ride" "Net.need_ride" (defArgs (inClass (top 46) 2)) (defBody (inClass (top 46) 2)) (defScope (inClass (top 46) 2)) [] [] (He.ma K (He.ga K "Net") "need_ride") fd
  f_need_rides : ∃ fd, FunD K "need_rides" "need_rides" (defArgs (top 55)) (defBody (top 55)) (defScope (top 55)) [] [] (He.ga K "need_rides") fd
  f_are_days : ∃ fd, FunD K "are_days" "are_days" (defArgs (top 43)) (defBody (top 43)) (defScope (top 43)) [] [] (He.ga K "are_days") fd
  f_is_leg : ∃ fd, FunD K "is_leg" "is_leg" (defArgs (top 44)) (defBody (top 44)) (defScope (top 44)) [] [] (He.ga K "is_leg") fd
  f_is_word : ∃ fd, FunD K "is_word" "is_word" (defArgs (top 41)) (defBody (top 41)) (defScope (top 41)) [] [] (He.ga K "is_word") fd
  f_is_place : ∃ fd, FunD K "is_place" "is_place" (defArgs (top 42)) (defBody (top 42)) (defScope (top 42)) [] [] (He.ga K "is_place") fd
  f_need_net : ∃ fd, FunD K "need_net" "need_net" (defArgs (top 45)) (defBody (top 45)) (defScope (top 45)) [] [] (He.ga K "need_net") fd
  f_Net_init__ : ∃ fd, FunD K "__init__" "Net.__init__" (defArgs (inClass (top 46) 0)) (defBody (inClass (top 46) 0)) (defScope (inClass (top 46) 0)) [] [] (He.ma K (He.ga K "Net") "__init__") fd
  f_judged_duty : ∃ fd, FunD K "judged_duty" "judged_duty" (defArgs (top 57)) (defBody (top 57)) (defScope (top 57)) [] [] (He.ga K "judged_duty") fd
  f_cut : ∃ fd, FunD K "cut" "cut" (defArgs (top 59)) (defBody (top 59)) (defScope (top 59)) [] [] (He.ga K "cut") fd
  f_rested : ∃ fd, FunD K "rested" "rested" (defArgs (top 58)) (defBody (top 58)) (defScope (top 58)) [] [] (He.ga K "rested") fd
  f_law_leg : ∃ fd, FunD K "_law_leg" "_law_leg" (defArgs (top 68)) (defBody (top 68)) (defScope (top 68)) [] [] (He.ga K "_law_leg") fd
  f_law_leave : ∃ fd, FunD K "_law_leave" "_law_leave" (defArgs (top 67)) (defBody (top 67)) (defScope (top 67)) [] [] (He.ga K "_law_leave") fd
  f_law_times : ∃ fd, FunD K "_law_times" "_law_times" (defArgs (top 70)) (defBody (top 70)) (defScope (top 70)) [] [] (He.ga K "_law_times") fd
  f_law_word : ∃ fd, FunD K "_law_word" "_law_word" (defArgs (top 71)) (defBody (top 71)) (defScope (top 71)) [] [] (He.ga K "_law_word") fd
  f_law_rested : ∃ fd, FunD K "_law_rested" "_law_rested" (defArgs (top 72)) (defBody (top 72)) (defScope (top 72)) [] [] (He.ga K "_law_rested") fd
  f_law_same : ∃ fd, FunD K "_law_same" "_law_same" (defArgs (top 63)) (defBody (top 63)) (defScope (top 63)) [] [] (He.ga K "_law_same") fd
  f_law_chain : ∃ fd, FunD K "_law_chain" "_law_chain" (defArgs (top 74)) (defBody (top 74)) (defScope (top 74)) [] [] (He.ga K "_law_chain") fd
  f_law_cut : ∃ fd, FunD K "_law_cut" "_law_cut" (defArgs (top 73)) (defBody (top 73)) (defScope (top 73)) [] [] (He.ga K "_law_cut") fd
  f_law_kind : ∃ fd, FunD K "_law_kind" "_law_kind" (defArgs (top 64)) (defBody (top 64)) (defScope (top 64)) [] [] (He.ga K "_law_kind") fd
  f_law_rides : ∃ fd, FunD K "_law_rides" "_law_rides" (defArgs (top 69)) (defBody (top 69)) (defScope (top 69)) [] [] (He.ga K "_law_rides") fd
  f_law_shuttle : ∃ fd, FunD K "_law_shuttle" "_law_shuttle" (defArgs (top 65)) (defBody (top 65)) (defScope (top 65)) [] [] (He.ga K "_law_shuttle") fd
  f_law_net : ∃ fd, FunD K "_law_net" "_law_net" (defArgs (top 66)) (defBody (top 66)) (defScope (top 66)) [] [] (He.ga K "_law_net") fd
  f_law_start : ∃ fd, FunD K "_law_start" "_law_start" (defArgs (top 61)) (defBody (top 61)) (defScope (top 61)) [] [] (He.ga K "_law_start") fd
  f_law : ∃ fd, FunD K "law" "law" (defArgs (top 75)) (defBody (top 75)) (defScope (top 75)) [] [] (He.ga K "law") fd
/-! #### _law_drawn -/
abbrev st_law_drawn : Stmt := (top 62)
abbrev N_law_drawn : List Str := ["_law_state", "_law_many", "_law_found", "_law_cell"]
def b_law_drawn : MS := sSeq (sIf (tOf (eBin (lv dGt) (eBin fIx (eV 0) (eC (.int 3))) (eC (.int 0)))) (sSeq (sSet 2 (eBin (lv dMod) (eBin fIx (eV 0) (eC (.int 3))) (eV 1)))
  (sSeq (sAsg (eBin (lv dDiv) (eBin fIx (eV 0) (eC (.int 3))) (eV 1)) (gSubM (eV 0) (eC (.int 3))))
  (sRet (eV 2)))) (sNil))
  (sSeq (sAsg (eBin (lv0 dAdd) (eBin fIx (eV 0) (eC (.int 1))) (eC (.int 1))) (gSubM (eV 0) (eC (.int 1))))
  (sSeq (sIf (tOf (eBin (lv dLe) (eBin fIx (eV 0) (eC (.int 1))) (eB fLen (aCons (eBin fIx (eV 0) (eC (.int 0))) (aNil))))) (sSeq (sSet 3 (eBin fIx (eBin fIx (eV 0) (eC (.int 0))) (eBin (lv dSub) (eBin fIx (eV 0) (eC (.int 1))) (eC (.int 1)))))
  (sSeq (sAsg (eIf (tOf (eBin (lv dGe) (eV 3) (eBin (lv dPow) (eC (.int 10)) (eC (.int 18))))) (eBin (lv dDiv) (eV 3) (eV 1)) (eC (.int 0))) (gSubM (eV 0) (eC (.int 3))))
  (sRet (eBin (lv dMod) (eV 3) (eV 1))))) (sNil))
  (sSeq (sAsg (eBin (lv dMod) (eBin (lv0 dAdd) (eBin (lv dMulI) (eBin fIx (eV 0) (eC (.int 2))) (eC (.int 48271))) (eC (.int 11))) (eC (.int 2147483647))) (gSubM (eV 0) (eC (.int 2))))
  (sRet (eBin (lv dMod) (eBin (lv dDiv) (eBin fIx (eV 0) (eC (.int 2))) (eC (.int 7))) (eV 1))))))
def M_law_drawn : MF := bodyM 2 b_law_drawn
theorem ok_law_drawn {P : Program} {w : World} {K : PySem.W.Frag} {mg : Str → Option Value} {base : Heap} (G : Gx P w K mg base) : FnE P w K mg base 1 (He.ga K "_law_drawn") ["_law_state", "_law_many"] M_law_drawn := by
  obtain ⟨fd, F⟩ := G.f_law_drawn
  have fx := G.fx
  refine ⟨fd, ?_⟩
  refine fn_okC (N := N_law_drawn) (st := st_law_drawn) (k := 0) F ⟨rfl, rfl, rfl, by decide +kernel, rfl, by decide +kernel, by decide +kernel⟩ rfl (fun _ _ _ _ _ _ us hl => match us, hl with | [_, _], _ => rfl) fun cdv A outer s H E hcd hp hr W tk => ?_
  have nd : N_law_drawn.Nodup := by decide +kernel
  have hu1 := ru1 hr
  have hu64 := ru64 hr
  have hu65 := ru65 hr
  exact (sSs_cons (sS_if (sT_cmp o_gt (sE_ix hu1 (sE_var 0) sE_int) sE_int (by with_unfolding_all rfl)) (sSs_cons (sS_set (i := 2) nd rfl (by first | exact .inl rfl | exact .inr rfl) (sE_bin o_mod (sE_ix hu1 (sE_var 0) sE_int) (sE_var 1)))
    (sSs_cons (sS_asg (sE_bin o_div (sE_ix hu1 (sE_var 0) sE_int) (sE_var 1)) (sG_sub hu1 (sE_var 0) sE_int))
    (sSs_one (sS_ret (sE_var 2))))) sSs_nil)
    (sSs_cons (sS_asg (sE_bin o_add (sE_ix hu1 (sE_var 0) sE_int) sE_int) (sG_sub hu1 (sE_var 0) sE_int))
    (sSs_cons (sS_if (sT_cmp o_le (sE_ix hu1 (sE_var 0) sE_int) (sE_b c_len rfl fx.n_len bb_len (sA_cons (sE_ix hu1 (sE_var 0) sE_int) sA_nil)) (by with_unfolding_all rfl)) (sSs_cons (sS_set (i := 3) nd rfl (by first | exact .inl rfl | exact .inr rfl) (sE_ix hu1 (sE_ix hu1 (sE_var 0) sE_int) (sE_bin o_sub (sE_ix hu1 (sE_var 0) sE_int) sE_int)))
    (sSs_cons (sS_asg (sE_if (sT_cmp o_ge (sE_var 3) (sE_bin o_pow sE_int sE_int) (by with_unfolding_all rfl)) (sE_bin o_div (sE_var 3) (sE_var 1)) sE_int) (sG_sub hu1 (sE_var 0) sE_int))
    (sSs_one (sS_ret (sE_bin o_mod (sE_var 3) (sE_var 1)))))) sSs_nil)
    (sSs_cons (sS_asg (sE_bin o_mod (sE_bin o_add (sE_bin o_mulI (sE_ix hu1 (sE_var 0) sE_int) sE_int) sE_int) sE_int) (sG_sub hu1 (sE_var 0) sE_int))
    (sSs_one (sS_ret (sE_bin o_mod (sE_bin o_div (sE_ix hu1 (sE_var 0) sE_int) sE_int) (sE_var 1))))))))
/-! #### Net.leave -/
abbrev st_Net_leave : Stmt := (inClass (top 46) 7)
abbrev N_Net_leave : List Str := ["self", "ride"]
def b_Net_leave : MS := sRet (eBin (lv0 dAdd) (eBin (lv dMulI) (eBin fIx (eV 1) (eC (.int 0))) (eC (.int 1440))) (eBin fIx (eBin fIx (eFld "Net" "legs" (eV 0)) (eBin fIx (eV 1) (eC (.int 1)))) (eC (.int 3))))
def M_Net_leave : MF := bodyM 0 b_Net_leave
theorem ok_Net_leave {P : Program} {w : World} {K : PySem.W.Frag} {mg : Str → Option Value} {base : Heap} (G : Gx P w K mg base) : FnE P w K mg base 1 (He.ma K (He.ga K "Net") "leave") ["self", "ride"] M_Net_leave := by
  obtain ⟨fd, F⟩ := G.f_Net_leave
  have fx := G.fx
  refine ⟨fd, ?_⟩
  refine fn_okC (N := N_Net_leave) (st := st_Net_leave) (k := 0) F ⟨rfl, rfl, rfl, by decide +kernel, rfl, by decide +kernel, by decide +kernel⟩ rfl (fun _ _ _ _ _ _ us hl => match us, hl with | [_, _], _ => rfl) fun cdv A outer s H E hcd hp hr W tk => ?_
  have nd : N_Net_leave.Nodup := by decide +kernel
  have hu1 := ru1 hr
  have hu64 := ru64 hr
  have hu65 := ru65 hr
  exact (sSs_one (sS_ret (sE_bin o_add (sE_bin o_mulI (sE_ix hu1 (sE_var 1) sE_int) (qE_gint fx.i_DAY)) (sE_ix hu1 (sE_ix hu1 (sE_fld (sE_var 0) fx.d_Net fx.c_Net fx.a_Net_legs) (sE_ix hu1 (sE_var 1) sE_int)) sE_int))))
/-! #### Net.long -/
abbrev st_Net_long : Stmt := (inClass (top 46) 5)
abbrev N_Net_long : List Str := ["self", "ride"]
def b_Net_long : MS := sRet (eBin fIx (eBin fIx (eFld "Net" "legs" (eV 0)) (eBin fIx (eV 1) (eC (.int 1)))) (eC (.int 4)))
def M_Net_long : MF := bodyM 0 b_Net_long
theorem ok_Net_long {P : Program} {w : World} {K : PySem.W.Frag} {mg : Str → Option Value} {base : Heap} (G : Gx P w K mg base) : FnE P w K mg base 1 (He.ma K (He.ga K "Net") "long") ["self", "ride"] M_Net_long := by
  obtain ⟨fd, F⟩ := G.f_Net_long
  have fx := G.fx
  refine ⟨fd, ?_⟩
  refine fn_okC (N := N_Net_long) (st := st_Net_long) (k := 0) F ⟨rfl, rfl, rfl, by decide +kernel, rfl, by decide +kernel, by decide +kernel⟩ rfl (fun _ _ _ _ _ _ us hl => match us, hl with | [_, _], _ => rfl) fun cdv A outer s H E hcd hp hr W tk => ?_
  have nd : N_Net_long.Nodup := by decide +kernel
  have hu1 := ru1 hr
  have hu64 := ru64 hr
  have hu65 := ru65 hr
  exact (sSs_one (sS_ret (sE_ix hu1 (sE_ix hu1 (sE_fld (sE_var 0) fx.d_Net fx.c_Net fx.a_Net_legs) (sE_ix hu1 (sE_var 1) sE_int)) sE_int)))
/-! #### Net.arrive -/
abbrev st_Net_arrive : Stmt := (inClass (top 46) 8)
abbrev N_Net_arrive : List Str := ["self", "ride"]
def b_Net_arrive : MS := sRet (eBin (lv0 dAdd) (eMeth "Net" "leave" 2 M_Net_leave (eV 0) (aCons (eV 1) (aNil))) (eMeth "Net" "long" 2 M_Net_long (eV 0) (aCons (eV 1) (aNil))))
def M_Net_arrive : MF := bodyM 0 b_Net_arrive
theorem ok_Net_arrive {P : Program} {w : World} {K : PySem.W.Frag} {mg : Str → Option Value} {base : Heap} (G : Gx P w K mg base) : FnE P w K mg base 2 (He.ma K (He.ga K "Net") "arrive") ["self", "ride"] M_Net_arrive := by
  obtain ⟨fd, F⟩ := G.f_Net_arrive
  have fx := G.fx
  refine ⟨fd, ?_⟩
  refine fn_okC (N := N_Net_arrive) (st := st_Net_arrive) (k := 1) F ⟨rfl, rfl, rfl, by decide +kernel, rfl, by decide +kernel, by decide +kernel⟩ rfl (fun _ _ _ _ _ _ us hl => match us, hl with | [_, _], _ => rfl) fun cdv A outer s H E hcd hp hr W tk => ?_
  have nd : N_Net_arrive.Nodup := by decide +kernel
  have hu1 := ru1 hr
  have hu64 := ru64 hr
  have hu65 := ru65 hr
  exact (sSs_one (sS_ret (sE_bin o_add (qE_meth (pl := plainOf _ _) (ps := ["self", "ride"]) (m := M_Net_leave) (sE_var 0) fx.d_Net fx.c_Net fx.m_Net_leave (ok_Net_leave G) (hr.mono (by decide)) tk (sA_cons (sE_var 1) sA_nil)) (qE_meth (pl := plainOf _ _) (ps := ["self", "ride"]) (m := M_Net_long) (sE_var 0) fx.d_Net fx.c_Net fx.m_Net_long (ok_Net_long G) (hr.mono (by decide)) tk (sA_cons (sE_var 1) sA_nil)))))
/-! #### Net.goal -/
abbrev st_Net_goal : Stmt := (inClass (top 46) 4)
abbrev N_Net_goal : List Str := ["self", "ride"]
def b_Net_goal : MS := sRet (eBin fIx (eBin fIx (eFld "Net" "legs" (eV 0)) (eBin fIx (eV 1) (eC (.int 1)))) (eC (.int 2)))
def M_Net_goal : MF := bodyM 0 b_Net_goal
theorem ok_Net_goal {P : Program} {w : World} {K : PySem.W.Frag} {mg : Str → Option Value} {base : Heap} (G : Gx P w K mg base) : FnE P w K mg base 1 (He.ma K (He.ga K "Net") "goal") ["self", "ride"] M_Net_goal := by
  obtain ⟨fd, F⟩ := G.f_Net_goal
  have fx := G.fx
  refine ⟨fd, ?_⟩
  refine fn_okC (N := N_Net_goal) (st := st_Net_goal) (k := 0) F ⟨rfl, rfl, rfl, by decide +kernel, rfl, by decide +kernel, by decide +kernel⟩ rfl (fun _ _ _ _ _ _ us hl => match us, hl with | [_, _], _ => rfl) fun cdv A outer s H E hcd hp hr W tk => ?_
  have nd : N_Net_goal.Nodup := by decide +kernel
  have hu1 := ru1 hr
  have hu64 := ru64 hr
  have hu65 := ru65 hr
  exact (sSs_one (sS_ret (sE_ix hu1 (sE_ix hu1 (sE_fld (sE_var 0) fx.d_Net fx.c_Net fx.a_Net_legs) (sE_ix hu1 (sE_var 1) sE_int)) sE_int)))
/-! #### Net.start -/
abbrev st_Net_start : Stmt := (inClass (top 46) 3)
abbrev N_Net_start : List Str := ["self", "ride"]
def b_Net_start : MS := sRet (eBin fIx (eBin fIx (eFld "Net" "legs" (eV 0)) (eBin fIx (eV 1) (eC (.int 1)))) (eC (.int 1)))
def M_Net_start : MF := bodyM 0 b_Net_start
theorem ok_Net_start {P : Program} {w : World} {K : PySem.W.Frag} {mg : Str → Option Value} {base : Heap} (G : Gx P w K mg base) : FnE P w K mg base 1 (He.ma K (He.ga K "Net") "start") ["self", "ride"] M_Net_start := by
  obtain ⟨fd, F⟩ := G.f_Net_start
  have fx := G.fx
  refine ⟨fd, ?_⟩
  refine fn_okC (N := N_Net_start) (st := st_Net_start) (k := 0) F ⟨rfl, rfl, rfl, by decide +kernel, rfl, by decide +kernel, by decide +kernel⟩ rfl (fun _ _ _ _ _ _ us hl => match us, hl with | [_, _], _ => rfl) fun cdv A outer s H E hcd hp hr W tk => ?_
  have nd : N_Net_start.Nodup := by decide +kernel
  have hu1 := ru1 hr
  have hu64 := ru64 hr
  have hu65 := ru65 hr
  exact (sSs_one (sS_ret (sE_ix hu1 (sE_ix hu1 (sE_fld (sE_var 0) fx.d_Net fx.c_Net fx.a_Net_legs) (sE_ix hu1 (sE_var 1) sE_int)) sE_int)))
/-! #### duty_word -/
abbrev st_duty_word : Stmt := (top 56)
abbrev N_duty_word : List Str := ["held", "rides", "one", "other", "ride"]
def b_duty_word : MS := sSeq (sFor (iZipD (aCons (eV 1) (aCons (eCut (eV 1) (pSome (eC (.int 1))) (pNo)) (aNil)))) (gTupD 2 (gsCons (gV 2) (gsCons (gV 3) (gsNil)))) (sSeq (sIf (tOf (eBin (lv dNe) (eMeth "Net" "goal" 2 M_Net_goal (eV 0) (aCons (eV 2) (aNil))) (eMeth "Net" "start" 2 M_Net_start (eV 0) (aCons (eV 3) (aNil))))) (sRet (eC (.str "place"))) (sNil))
  (sIf (tOf (eBin (lv dGt) (eBin (lv0 dAdd) (eMeth "Net" "arrive" 2 M_Net_arrive (eV 0) (aCons (eV 2) (aNil))) (eC (.int 30))) (eMeth "Net" "leave" 2 M_Net_leave (eV 0) (aCons (eV 3) (aNil))))) (sRet (eC (.str "gap"))) (sNil))))
  (sSeq (sIf (tOf (eBin (lv dGt) (eB fLen (aCons (eV 1) (aNil))) (eC (.int 4)))) (sRet (eC (.str "legs"))) (sNil))
  (sSeq (sIf (tOf (eBin (lv dGt) (eB fSum (aCons (eComp (iAny (eV 1)) (gV 4) (tYesM) (eMeth "Net" "long" 2 M_Net_long (eV 0) (aCons (eV 4) (aNil))) [4]) (aNil))) (eC (.int 540)))) (sRet (eC (.str "flown"))) (sNil))
  (sRet (eIf (tOf (eBin (lv dGt) (eBin (lv0 dAdd) (eBin (lv dSub) (eBin (lv0 dAdd) (eMeth "Net" "arrive" 2 M_Net_arrive (eV 0) (aCons (eBin fIx (eV 1) (eNeg (eC (.int 1)))) (aNil))) (eC (.int 30))) (eMeth "Net" "leave" 2 M_Net_leave (eV 0) (aCons (eBin fIx (eV 1) (eC (.int 0))) (aNil)))) (eC (.int 60))) (eC (.int 840)))) (eC (.str "long")) (eC (.str ""))))))
def M_duty_word : MF := bodyM 3 b_duty_word
theorem ok_duty_word {P : Program} {w : World} {K : PySem.W.Frag} {mg : Str → Option Value} {base : Heap} (G : Gx P w K mg base) : FnE P w K mg base 3 (He.ga K "duty_word") ["held", "rides"] M_duty_word := by
  obtain ⟨fd, F⟩ := G.f_duty_word
  have fx := G.fx
  refine ⟨fd, ?_⟩
  refine fn_okC (N := N_duty_word) (st := st_duty_word) (k := 2) F ⟨rfl, rfl, rfl, by decide +kernel, rfl, by decide +kernel, by decide +kernel⟩ rfl (fun _ _ _ _ _ _ us hl => match us, hl with | [_, _], _ => rfl) fun cdv A outer s H E hcd hp hr W tk => ?_
  have nd : N_duty_word.Nodup := by decide +kernel
  have hu1 := ru1 hr
  have hu64 := ru64 hr
  have hu65 := ru65 hr
  exact (sSs_cons (sS_for hp rfl (pI_zip rfl fx.n_zip (sA_cons (sE_var 1) (sA_cons (sE_cut (sE_var 1) (sp_some sE_int) sp_no) sA_nil))) (sG_tup rfl (sGs_cons (sG_name (i := 2) nd rfl (by first | exact .inl rfl | exact .inr rfl)) (sGs_cons (sG_name (i := 3) nd rfl (by first | exact .inl rfl | exact .inr rfl)) sGs_nil))) (sSs_cons (sS_if (sT_cmp (o_ne hu64) (qE_meth (pl := plainOf _ _) (ps := ["self", "ride"]) (m := M_Net_goal) (sE_var 0) fx.d_Net fx.c_Net fx.m_Net_goal (ok_Net_goal G) (hr.mono (by decide)) tk (sA_cons (sE_var 2) sA_nil)) (qE_meth (pl := plainOf _ _) (ps := ["self", "ride"]) (m := M_Net_start) (sE_var 0) fx.d_Net fx.c_Net fx.m_Net_start (ok_Net_start G) (hr.mono (by decide)) tk (sA_cons (sE_var 3) sA_nil)) (by with_unfolding_all rfl)) (sSs_one (sS_ret sE_str)) sSs_nil)
    (sSs_one (sS_if (sT_cmp o_gt (sE_bin o_add (qE_meth (pl := plainOf _ _) (ps := ["self", "ride"]) (m := M_Net_arrive) (sE_var 0) fx.d_Net fx.c_Net fx.m_Net_arrive (ok_Net_arrive G) (hr.mono (by decide)) tk (sA_cons (sE_var 2) sA_nil)) (qE_gint fx.i_GAP)) (qE_meth (pl := plainOf _ _) (ps := ["self", "ride"]) (m := M_Net_leave) (sE_var 0) fx.d_Net fx.c_Net fx.m_Net_leave (ok_Net_leave G) (hr.mono (by decide)) tk (sA_cons (sE_var 3) sA_nil)) (by with_unfolding_all rfl)) (sSs_one (sS_ret sE_str)) sSs_nil))))
    (sSs_cons (sS_if (sT_cmp o_gt (sE_b c_len rfl fx.n_len bb_len (sA_cons (sE_var 1) sA_nil)) (qE_gint fx.i_MOST_DUTY_LEGS) (by with_unfolding_all rfl)) (sSs_one (sS_ret sE_str)) sSs_nil)
    (sSs_cons (sS_if (sT_cmp o_gt (sE_b (c_sum rfl) rfl fx.n_sum bb_sum (sA_cons (sE_comp (own := [("ride", 4)]) rfl nd (pI_any (sE_var 1)) (blkOk_by (by kernel_rfl)) (fun _ _ _ _ _ => (sC_name (i := 4) nd rfl (by first | exact .inl rfl | exact .inr rfl) (by decide))) (fun _ _ _ _ _ => sIf_nil) (fun _ _ _ _ _ => (qE_meth (pl := plainOf _ _) (ps := ["self", "ride"]) (m := M_Net_long) (sE_var 0) fx.d_Net fx.c_Net fx.m_Net_long (ok_Net_long G) (hr.mono (by decide)) LamX.takes0 (sA_cons (sE_var 4) sA_nil)))) sA_nil)) (qE_gint fx.i_MOST_FLOWN) (by with_unfolding_all rfl)) (sSs_one (sS_ret sE_str)) sSs_nil)
    (sSs_one (sS_ret (sE_if (sT_cmp o_gt (sE_bin o_add (sE_bin o_sub (sE_bin o_add (qE_meth (pl := plainOf _ _) (ps := ["self", "ride"]) (m := M_Net_arrive) (sE_var 0) fx.d_Net fx.c_Net fx.m_Net_arrive (ok_Net_arrive G) (hr.mono (by decide)) tk (sA_cons (sE_ix hu1 (sE_var 1) (sE_neg sE_int)) sA_nil)) (qE_gint fx.i_BEHIND)) (qE_meth (pl := plainOf _ _) (ps := ["self", "ride"]) (m := M_Net_leave) (sE_var 0) fx.d_Net fx.c_Net fx.m_Net_leave (ok_Net_leave G) (hr.mono (by decide)) tk (sA_cons (sE_ix hu1 (sE_var 1) sE_int) sA_nil))) (qE_gint fx.i_AHEAD)) (qE_gint fx.i_MOST_DUTY) (by with_unfolding_all rfl)) sE_str sE_str))))))
/-! #### is_number -/
abbrev st_is_number : Stmt := (top 40)
abbrev N_is_number : List Str := ["thing", "low", "high"]
def b_is_number : MS := sRet (eAnd (eB fIsi (aCons (eV 0) (aCons (eC (.ty "int")) (aNil)))) (eAnd (eNot (eB fIsi (aCons (eV 0) (aCons (eC (.ty "bool")) (aNil))))) (eChain (lv dLe) (lv dLe) (eV 1) (eV 0) (eV 2))))
def M_is_number : MF := bodyM 0 b_is_number
theorem ok_is_number {P : Program} {w : World} {K : PySem.W.Frag} {mg : Str → Option Value} {base : Heap} (G : Gx P w K mg base) : FnE P w K mg base 1 (He.ga K "is_number") ["thing", "low", "high"] M_is_number := by
  obtain ⟨fd, F⟩ := G.f_is_number
  have fx := G.fx
  refine ⟨fd, ?_⟩
  refine fn_okC (N := N_is_number) (st := st_is_number) (k := 0) F ⟨rfl, rfl, rfl, by decide +kernel, rfl, by decide +kernel, by decide +kernel⟩ rfl (fun _ _ _ _ _ _ us hl => match us, hl with | [_, _, _], _ => rfl) fun cdv A outer s H E hcd hp hr W tk => ?_
  have nd : N_is_number.Nodup := by decide +kernel
  have hu1 := ru1 hr
  have hu64 := ru64 hr
  have hu65 := ru65 hr
  exact (sSs_one (sS_ret (sE_and (sE_b c_isi rfl fx.n_isinstance bb_isinstance (sA_cons (sE_var 0) (sA_cons (sE_ty rfl fx.n_int bb_int) sA_nil))) (sE_and (sE_not (sE_b c_isi rfl fx.n_isinstance bb_isinstance (sA_cons (sE_var 0) (sA_cons (sE_ty rfl fx.n_bool bb_bool) sA_nil)))) (sE_one (sE_chain o_le o_le (sE_var 1) (sE_var 0) (sE_var 2)))))))
/-! #### Net.goes -/
abbrev st_Net_goes : Stmt := (inClass (top 46) 1)
abbrev N_Net_goes : List Str := ["self", "day", "number"]
def b_Net_goes : MS := sRet (eAnd (eCall 3 M_is_number (aCons (eV 1) (aCons (eC (.int 0)) (aCons (eC (.int 60)) (aNil))))) (eAnd (eBin fIn (eV 2) (eFld "Net" "legs" (eV 0))) (eBin fIn (eBin (lv dMod) (eV 1) (eC (.int 7))) (eBin fIx (eBin fIx (eFld "Net" "legs" (eV 0)) (eV 2)) (eC (.int 5))))))
def M_Net_goes : MF := bodyM 0 b_Net_goes
theorem ok_Net_goes {P : Program} {w : World} {K : PySem.W.Frag} {mg : Str → Option Value} {base : Heap} (G : Gx P w K mg base) : FnE P w K mg base 2 (He.ma K (He.ga K "Net") "goes") ["self", "day", "number"] M_Net_goes := by
  obtain ⟨fd, F⟩ := G.f_Net_goes
  have fx := G.fx
  refine ⟨fd, ?_⟩
  refine fn_okC (N := N_Net_goes) (st := st_Net_goes) (k := 1) F ⟨rfl, rfl, rfl, by decide +kernel, rfl, by decide +kernel, by decide +kernel⟩ rfl (fun _ _ _ _ _ _ us hl => match us, hl with | [_, _, _], _ => rfl) fun cdv A outer s H E hcd hp hr W tk => ?_
  have nd : N_Net_goes.Nodup := by decide +kernel
  have hu1 := ru1 hr
  have hu64 := ru64 hr
  have hu65 := ru65 hr
  exact (sSs_one (sS_ret (sE_and (qE_call (ps := ["thing", "low", "high"]) (m := M_is_number) (ok_is_number G) (hr.mono (by decide)) fx.d_is_number tk (sA_cons (sE_var 1) (sA_cons sE_int (sA_cons (qE_gint fx.i_MOST_DAY) sA_nil)))) (sE_and (sE_cmp (o_in hu65) (sE_var 2) (sE_fld (sE_var 0) fx.d_Net fx.c_Net fx.a_Net_legs) (by with_unfolding_all rfl)) (sE_one (sE_cmp (o_in hu65) (sE_bin o_mod (sE_var 1) (qE_gint fx.i_WEEK)) (sE_ix hu1 (sE_ix hu1 (sE_fld (sE_var 0) fx.d_Net fx.c_Net fx.a_Net_legs) (sE_var 2)) sE_int) (by with_unfolding_all rfl)))))))
/-! #### Net.need_ride -/
abbrev st_Net_need_ride : Stmt := (inClass (top 46) 2)
abbrev N_Net_need_ride : List Str := ["self", "ride", "good"]
def b_Net_need_ride : MS := sSeq (sSet 2 (eAnd (eB fIsi (aCons (eV 1) (aCons (eC (.ty "tuple")) (aNil)))) (eAnd (eBin (lv dEq) (eB fLen (aCons (eV 1) (aNil))) (eC (.int 2))) (eCall 3 M_is_number (aCons (eBin fIx (eV 1) (eC (.int 1))) (aCons (eC (.int 1)) (aCons (eC (.int 9999)) (aNil))))))))
  (sIf (tOrM (tNotM (tTru (eV 2))) (tNotM (tTru (eMeth "Net" "goes" 3 M_Net_goes (eV 0) (aCons (eBin fIx (eV 1) (eC (.int 0))) (aCons (eBin fIx (eV 1) (eC (.int 1))) (aNil))))))) (sRaise "NoLeg") (sNil))
def M_Net_need_ride : MF := bodyM 1 b_Net_need_ride
theorem ok_Net_need_ride {P : Program} {w : World} {K : PySem.W.Frag} {mg : Str → Option Value} {base : Heap} (G : Gx P w K mg base) : FnE P w K mg base 3 (He.ma K (He.ga K "Net") "need_ride") ["self", "ride"] M_Net_need_ride := by
  obtain ⟨fd, F⟩ := G.f_Net_need_ride
  have fx := G.fx
  refine ⟨fd, ?_⟩
  refine fn_okC (N := N_Net_need_ride) (st := st_Net_need_ride) (k := 2) F ⟨rfl, rfl, rfl, by decide +kernel, rfl, by decide +kernel, by decide +kernel⟩ rfl (fun _ _ _ _ _ _ us hl => match us, hl with | [_, _], _ => rfl) fun cdv A outer s H E hcd hp hr W tk => ?_
  have nd : N_Net_need_ride.Nodup := by decide +kernel
  have hu1 := ru1 hr
  have hu64 := ru64 hr
  have hu65 := ru65 hr
  exact (sSs_cons (sS_set (i := 2) nd rfl (by first | exact .inl rfl | exact .inr rfl) (sE_and (sE_b c_isi rfl fx.n_isinstance bb_isinstance (sA_cons (sE_var 1) (sA_cons (sE_ty rfl fx.n_tuple bb_tuple) sA_nil))) (sE_and (sE_cmp (o_eq hu64) (sE_b c_len rfl fx.n_len bb_len (sA_cons (sE_var 1) sA_nil)) sE_int (by with_unfolding_all rfl)) (sE_one (qE_call (ps := ["thing", "low", "high"]) (m := M_is_number) (ok_is_number G) (hr.mono (by decide)) fx.d_is_number tk (sA_cons (sE_ix hu1 (sE_var 1) sE_int) (sA_cons sE_int (sA_cons (qE_gint fx.i_MOST_NUMBER) sA_nil))))))))
    (sSs_one (sS_if (sT_bop (sW_or (sT_not (sT_val (sE_var 2))) (sW_or1 (sT_not (sT_val (qE_meth (pl := plainOf _ _) (ps := ["self", "day", "number"]) (m := M_Net_goes) (sE_var 0) fx.d_Net fx.c_Net fx.m_Net_goes (ok_Net_goes G) (hr.mono (by decide)) tk (sA_cons (sE_ix hu1 (sE_var 1) sE_int) (sA_cons (sE_ix hu1 (sE_var 1) sE_int) sA_nil)))))))) (sSs_one (sS_raise rfl tk fx.x_NoLeg fx.d_NoLeg rfl)) sSs_nil)))
/-! #### need_rides -/
abbrev st_need_rides : Stmt := (top 55)
abbrev N_need_rides : List Str := ["held", "rides", "ride"]
def b_need_rides : MS := sSeq (sIf (tOrM (tNotM (tTru (eB fIsi (aCons (eV 1) (aCons (eC (.ty "tuple")) (aNil)))))) (tOf (eBin (lv dEq) (eV 1) (eTup (aNil))))) (sRaise "BadChain") (sNil))
  (sFor (iAny (eV 1)) (gV 2) (sExpr (eMeth "Net" "need_ride" 2 M_Net_need_ride (eV 0) (aCons (eV 2) (aNil)))))
def M_need_rides : MF := bodyM 1 b_need_rides
theorem ok_need_rides {P : Program} {w : World} {K : PySem.W.Frag} {mg : Str → Option Value} {base : Heap} (G : Gx P w K mg base) : FnE P w K mg base 4 (He.ga K "need_rides") ["held", "rides"] M_need_rides := by
  obtain ⟨fd, F⟩ := G.f_need_rides
  have fx := G.fx
  refine ⟨fd, ?_⟩
  refine fn_okC (N := N_need_rides) (st := st_need_rides) (k := 3) F ⟨rfl, rfl, rfl, by decide +kernel, rfl, by decide +kernel, by decide +kernel⟩ rfl (fun _ _ _ _ _ _ us hl => match us, hl with | [_, _], _ => rfl) fun cdv A outer s H E hcd hp hr W tk => ?_
  have nd : N_need_rides.Nodup := by decide +kernel
  have hu1 := ru1 hr
  have hu64 := ru64 hr
  have hu65 := ru65 hr
  exact (sSs_cons (sS_if (sT_bop (sW_or (sT_not (sT_val (sE_b c_isi rfl fx.n_isinstance bb_isinstance (sA_cons (sE_var 1) (sA_cons (sE_ty rfl fx.n_tuple bb_tuple) sA_nil))))) (sW_or1 (sT_cmp (o_eq hu64) (sE_var 1) (sE_tup sA_nil) (by with_unfolding_all rfl))))) (sSs_one (sS_raise rfl tk fx.x_BadChain fx.d_BadChain rfl)) sSs_nil)
    (sSs_one (sS_for hp rfl (pI_any (sE_var 1)) (sG_name (i := 2) nd rfl (by first | exact .inl rfl | exact .inr rfl)) (sSs_one (sS_expr (qE_meth (pl := plainOf _ _) (ps := ["self", "ride"]) (m := M_Net_need_ride) (sE_var 0) fx.d_Net fx.c_Net fx.m_Net_need_ride (ok_Net_need_ride G) (hr.mono (by decide)) tk (sA_cons (sE_var 2) sA_nil)))))))
/-! #### are_days -/
abbrev st_are_days : Stmt := (top 43)
abbrev N_are_days : List Str := ["days", "day", "one", "other"]
def b_are_days : MS := sSeq (sIf (tOrM (tNotM (tTru (eB fIsi (aCons (eV 0) (aCons (eC (.ty "tuple")) (aNil)))))) (tOrM (tOf (eBin (lv dEq) (eV 0) (eTup (aNil)))) (tNotM (tTru (eB fAll (aCons (eComp (iAny (eV 0)) (gV 1) (tYesM) (eCall 3 M_is_number (aCons (eV 1) (aCons (eC (.int 0)) (aCons (eBin (lv dSub) (eC (.int 7)) (eC (.int 1))) (aNil))))) [1]) (aNil))))))) (sRet (eC (.bool false))) (sNil))
  (sRet (eB fAll (aCons (eComp (iZipD (aCons (eV 0) (aCons (eCut (eV 0) (pSome (eC (.int 1))) (pNo)) (aNil)))) (gTupD 2 (gsCons (gV 2) (gsCons (gV 3) (gsNil)))) (tYesM) (eBin (lv dLt) (eV 2) (eV 3)) [2, 3]) (aNil))))
def M_are_days : MF := bodyM 3 b_are_days
theorem ok_are_days {P : Program} {w : World} {K : PySem.W.Frag} {mg : Str → Option Value} {base : Heap} (G : Gx P w K mg base) : FnE P w K mg base 2 (He.ga K "are_days") ["days"] M_are_days := by
  obtain ⟨fd, F⟩ := G.f_are_days
  have fx := G.fx
  refine ⟨fd, ?_⟩
  refine fn_okC (N := N_are_days) (st := st_are_days) (k := 1) F ⟨rfl, rfl, rfl, by decide +kernel, rfl, by decide +kernel, by decide +kernel⟩ rfl (fun _ _ _ _ _ _ us hl => match us, hl with | [_], _ => rfl) fun cdv A outer s H E hcd hp hr W tk => ?_
  have nd : N_are_days.Nodup := by decide +kernel
  have hu1 := ru1 hr
  have hu64 := ru64 hr
  have hu65 := ru65 hr
  exact (sSs_cons (sS_if (sT_bop (sW_or (sT_not (sT_val (sE_b c_isi rfl fx.n_isinstance bb_isinstance (sA_cons (sE_var 0) (sA_cons (sE_ty rfl fx.n_tuple bb_tuple) sA_nil))))) (sW_or (sT_cmp (o_eq hu64) (sE_var 0) (sE_tup sA_nil) (by with_unfolding_all rfl)) (sW_or1 (sT_not (sT_val (sE_b (c_all rfl) rfl fx.n_all bb_all (sA_cons (sE_comp (own := [("day", 1)]) rfl nd (pI_any (sE_var 0)) (blkOk_by (by kernel_rfl)) (fun _ _ _ _ _ => (sC_name (i := 1) nd rfl (by first | exact .inl rfl | exact .inr rfl) (by decide))) (fun _ _ _ _ _ => sIf_nil) (fun _ _ _ _ _ => (qE_call (ps := ["thing", "low", "high"]) (m := M_is_number) (ok_is_number G) (hr.mono (by decide)) fx.d_is_number LamX.takes0 (sA_cons (sE_var 1) (sA_cons sE_int (sA_cons (sE_bin o_sub (qE_gint fx.i_WEEK) sE_int) sA_nil)))))) sA_nil)))))))) (sSs_one (sS_ret sE_bool)) sSs_nil)
    (sSs_one (sS_ret (sE_b (c_all rfl) rfl fx.n_all bb_all (sA_cons (sE_comp (own := [("one", 2), ("other", 3)]) rfl nd (pI_zip rfl fx.n_zip (sA_cons (sE_var 0) (sA_cons (sE_cut (sE_var 0) (sp_some sE_int) sp_no) sA_nil))) (blkOk_by (by kernel_rfl)) (fun _ _ _ _ _ => (sC_tup rfl (sCs_cons (sC_name (i := 2) nd rfl (by first | exact .inl rfl | exact .inr rfl) (by decide)) (sCs_cons (sC_name (i := 3) nd rfl (by first | exact .inl rfl | exact .inr rfl) (by decide)) sCs_nil)))) (fun _ _ _ _ _ => sIf_nil) (fun _ _ _ _ _ => (sE_cmp o_lt (sE_var 2) (sE_var 3) (by with_unfolding_all rfl)))) sA_nil)))))
/-! #### is_leg -/
abbrev st_is_leg : Stmt := (top 44)
abbrev N_is_leg : List Str := ["leg", "ahead", "names", "number", "start", "goal", "out", "long", "days", "fare", "one"]
def b_is_leg : MS := sSeq (sIf (tOrM (tNotM (tTru (eB fIsi (aCons (eV 0) (aCons (eC (.ty "tuple")) (aNil)))))) (tOf (eBin (lv dNe) (eB fLen (aCons (eV 0) (aNil))) (eC (.int 7))))) (sRet (eC (.bool false))) (sNil))
  (sSeq (sAsg (eV 0) (gTupD 7 (gsCons (gV 3) (gsCons (gV 4) (gsCons (gV 5) (gsCons (gV 6) (gsCons (gV 7) (gsCons (gV 8) (gsCons (gV 9) (gsNil))))))))))
  (sSeq (sIf (tOrM (tNotM (tTru (eCall 3 M_is_number (aCons (eV 3) (aCons (eC (.int 1)) (aCons (eC (.int 9999)) (aNil))))))) (tOf (eBin fIn (eV 3) (eComp (iAny (eV 1)) (gV 10) (tYesM) (eBin fIx (eV 10) (eC (.int 0))) [10])))) (sRet (eC (.bool false))) (sNil))
  (sSeq (sIf (tOrM (tNotM (tTru (eB fIsi (aCons (eV 4) (aCons (eC (.ty "str")) (aNil)))))) (tOrM (tNotM (tTru (eB fIsi (aCons (eV 5) (aCons (eC (.ty "str")) (aNil)))))) (tOf (eBin (lv dEq) (eV 4) (eV 5))))) (sRet (eC (.bool false))) (sNil))
  (sSeq (sIf (tOrM (tOf (eBin fNotIn (eV 4) (eV 2))) (tOrM (tOf (eBin fNotIn (eV 5) (eV 2))) (tNotM (tTru (eCall 1 M_are_days (aCons (eV 8) (aNil))))))) (sRet (eC (.bool false))) (sNil))
  (sRet (eAnd (eCall 3 M_is_number (aCons (eV 6) (aCons (eC (.int 0)) (aCons (eBin (lv dSub) (eC (.int 1440)) (eC (.int 1))) (aNil))))) (eAnd (eCall 3 M_is_number (aCons (eV 7) (aCons (eC (.int 20)) (aCons (eC (.int 900)) (aNil))))) (eCall 3 M_is_number (aCons (eV 9) (aCons (eC (.int 1)) (aCons (eC (.int 100000)) (aNil))))))))))))
def M_is_leg : MF := bodyM 8 b_is_leg
theorem ok_is_leg {P : Program} {w : World} {K : PySem.W.Frag} {mg : Str → Option Value} {base : Heap} (G : Gx P w K mg base) : FnE P w K mg base 3 (He.ga K "is_leg") ["leg", "ahead", "names"] M_is_leg := by
  obtain ⟨fd, F⟩ := G.f_is_leg
  have fx := G.fx
  refine ⟨fd, ?_⟩
  refine fn_okC (N := N_is_leg) (st := st_is_leg) (k := 2) F ⟨rfl, rfl, rfl, by decide +kernel, rfl, by decide +kernel, by decide +kernel⟩ rfl (fun _ _ _ _ _ _ us hl => match us, hl with | [_, _, _], _ => rfl) fun cdv A outer s H E hcd hp hr W tk => ?_
  have nd : N_is_leg.Nodup := by decide +kernel
  have hu1 := ru1 hr
  have hu64 := ru64 hr
  have hu65 := ru65 hr
  exact (sSs_cons (sS_if (sT_bop (sW_or (sT_not (sT_val (sE_b c_isi rfl fx.n_isinstance bb_isinstance (sA_cons (sE_var 0) (sA_cons (sE_ty rfl fx.n_tuple bb_tuple) sA_nil))))) (sW_or1 (sT_cmp (o_ne hu64) (sE_b c_len rfl fx.n_len bb_len (sA_cons (sE_var 0) sA_nil)) sE_int (by with_unfolding_all rfl))))) (sSs_one (sS_ret sE_bool)) sSs_nil)
    (sSs_cons (sS_asg (sE_var 0) (sG_tup rfl (sGs_cons (sG_name (i := 3) nd rfl (by first | exact .inl rfl | exact .inr rfl)) (sGs_cons (sG_name (i := 4) nd rfl (by first | exact .inl rfl | exact .inr rfl)) (sGs_cons (sG_name (i := 5) nd rfl (by first | exact .inl rfl | exact .inr rfl)) (sGs_cons (sG_name (i := 6) nd rfl (by first | exact .inl rfl | exact .inr rfl)) (sGs_cons (sG_name (i := 7) nd rfl (by first | exact .inl rfl | exact .inr rfl)) (sGs_cons (sG_name (i := 8) nd rfl (by first | exact .inl rfl | exact .inr rfl)) (sGs_cons (sG_name (i := 9) nd rfl (by first | exact .inl rfl | exact .inr rfl)) sGs_nil)))))))))
    (sSs_cons (sS_if (sT_bop (sW_or (sT_not (sT_val (qE_call (ps := ["thing", "low", "high"]) (m := M_is_number) (ok_is_number G) (hr.mono (by decide)) fx.d_is_number tk (sA_cons (sE_var 3) (sA_cons sE_int (sA_cons (qE_gint fx.i_MOST_NUMBER) sA_nil)))))) (sW_or1 (sT_cmp (o_in hu65) (sE_var 3) (sE_comp (own := [("one", 10)]) rfl nd (pI_any (sE_var 1)) (blkOk_by (by kernel_rfl)) (fun _ _ _ _ _ => (sC_name (i := 10) nd rfl (by first | exact .inl rfl | exact .inr rfl) (by decide))) (fun _ _ _ _ _ => sIf_nil) (fun _ _ _ _ _ => (sE_ix hu1 (sE_var 10) sE_int))) (by with_unfolding_all rfl))))) (sSs_one (sS_ret sE_bool)) sSs_nil)
    (sSs_cons (sS_if (sT_bop (sW_or (sT_not (sT_val (sE_b c_isi rfl fx.n_isinstance bb_isinstance (sA_cons (sE_var 4) (sA_cons (sE_ty rfl fx.n_str bb_str) sA_nil))))) (sW_or (sT_not (sT_val (sE_b c_isi rfl fx.n_isinstance bb_isinstance (sA_cons (sE_var 5) (sA_cons (sE_ty rfl fx.n_str bb_str) sA_nil))))) (sW_or1 (sT_cmp (o_eq hu64) (sE_var 4) (sE_var 5) (by with_unfolding_all rfl)))))) (sSs_one (sS_ret sE_bool)) sSs_nil)
    (sSs_cons (sS_if (sT_bop (sW_or (sT_cmp (o_notin hu65) (sE_var 4) (sE_var 2) (by with_unfolding_all rfl)) (sW_or (sT_cmp (o_notin hu65) (sE_var 5) (sE_var 2) (by with_unfolding_all rfl)) (sW_or1 (sT_not (sT_val (qE_call (ps := ["days"]) (m := M_are_days) (ok_are_days G) (hr.mono (by decide)) fx.d_are_days tk (sA_cons (sE_var 8) sA_nil)))))))) (sSs_one (sS_ret sE_bool)) sSs_nil)
    (sSs_one (sS_ret (sE_and (qE_call (ps := ["thing", "low", "high"]) (m := M_is_number) (ok_is_number G) (hr.mono (by decide)) fx.d_is_number tk (sA_cons (sE_var 6) (sA_cons sE_int (sA_cons (sE_bin o_sub (qE_gint fx.i_DAY) sE_int) sA_nil)))) (sE_and (qE_call (ps := ["thing", "low", "high"]) (m := M_is_number) (ok_is_number G) (hr.mono (by decide)) fx.d_is_number tk (sA_cons (sE_var 7) (sA_cons (qE_gint fx.i_LEAST_LONG) (sA_cons (qE_gint fx.i_MOST_LONG) sA_nil)))) (sE_one (qE_call (ps := ["thing", "low", "high"]) (m := M_is_number) (ok_is_number G) (hr.mono (by decide)) fx.d_is_number tk (sA_cons (sE_var 9) (sA_cons sE_int (sA_cons (qE_gint fx.i_MOST_FARE) sA_nil))))))))))))))
/-! #### is_word -/
abbrev st_is_word : Stmt := (top 41)
abbrev N_is_word : List Str := ["thing", "least", "most", "sign"]
def b_is_word : MS := sSeq (sIf (tOrM (tNotM (tTru (eB fIsi (aCons (eV 0) (aCons (eC (.ty "str")) (aNil)))))) (tNotM (tOf (eChain (lv dLe) (lv dLe) (eV 1) (eB fLen (aCons (eV 0) (aNil))) (eV 2))))) (sRet (eC (.bool false))) (sNil))
  (sRet (eB fAll (aCons (eComp (iAny (eV 0)) (gV 3) (tYesM) (eBin fIn (eV 3) (eC (.str "abcdefghijklmnopqrstuvwxyz"))) [3]) (aNil))))
def M_is_word : MF := bodyM 1 b_is_word
theorem ok_is_word {P : Program} {w : World} {K : PySem.W.Frag} {mg : Str → Option Value} {base : Heap} (G : Gx P w K mg base) : FnE P w K mg base 1 (He.ga K "is_word") ["thing", "least", "most"] M_is_word := by
  obtain ⟨fd, F⟩ := G.f_is_word
  have fx := G.fx
  refine ⟨fd, ?_⟩
  refine fn_okC (N := N_is_word) (st := st_is_word) (k := 0) F ⟨rfl, rfl, rfl, by decide +kernel, rfl, by decide +kernel, by decide +kernel⟩ rfl (fun _ _ _ _ _ _ us hl => match us, hl with | [_, _, _], _ => rfl) fun cdv A outer s H E hcd hp hr W tk => ?_
  have nd : N_is_word.Nodup := by decide +kernel
  have hu1 := ru1 hr
  have hu64 := ru64 hr
  have hu65 := ru65 hr
  exact (sSs_cons (sS_if (sT_bop (sW_or (sT_not (sT_val (sE_b c_isi rfl fx.n_isinstance bb_isinstance (sA_cons (sE_var 0) (sA_cons (sE_ty rfl fx.n_str bb_str) sA_nil))))) (sW_or1 (sT_not (sT_chain o_le o_le (sE_var 1) (sE_b c_len rfl fx.n_len bb_len (sA_cons (sE_var 0) sA_nil)) (sE_var 2)))))) (sSs_one (sS_ret sE_bool)) sSs_nil)
    (sSs_one (sS_ret (sE_b (c_all rfl) rfl fx.n_all bb_all (sA_cons (sE_comp (own := [("sign", 3)]) rfl nd (pI_any (sE_var 0)) (blkOk_by (by kernel_rfl)) (fun _ _ _ _ _ => (sC_name (i := 3) nd rfl (by first | exact .inl rfl | exact .inr rfl) (by decide))) (fun _ _ _ _ _ => sIf_nil) (fun _ _ _ _ _ => (sE_cmp (o_in hu65) (sE_var 3) (qE_gstr fx.s_LETTERS) (by with_unfolding_all rfl)))) sA_nil)))))
/-! #### is_place -/
abbrev st_is_place : Stmt := (top 42)
abbrev N_is_place : List Str := ["place", "ahead", "name", "change"]
def b_is_place : MS := sSeq (sIf (tOrM (tNotM (tTru (eB fIsi (aCons (eV 0) (aCons (eC (.ty "tuple")) (aNil)))))) (tOrM (tOf (eBin (lv dNe) (eB fLen (aCons (eV 0) (aNil))) (eC (.int 2)))) (tNotM (tTru (eCall 3 M_is_word (aCons (eBin fIx (eV 0) (eC (.int 0))) (aCons (eC (.int 3)) (aCons (eC (.int 3)) (aNil))))))))) (sRet (eC (.bool false))) (sNil))
  (sRet (eAnd (eBin fNotIn (eBin fIx (eV 0) (eC (.int 0))) (eComp (iAny (eV 1)) (gTupD 2 (gsCons (gV 2) (gsCons (gV 3) (gsNil)))) (tYesM) (eV 2) [2, 3])) (eCall 3 M_is_number (aCons (eBin fIx (eV 0) (eC (.int 1))) (aCons (eC (.int 10)) (aCons (eC (.int 300)) (aNil)))))))
def M_is_place : MF := bodyM 2 b_is_place
theorem ok_is_place {P : Program} {w : World} {K : PySem.W.Frag} {mg : Str → Option Value} {base : Heap} (G : Gx P w K mg base) : FnE P w K mg base 2 (He.ga K "is_place") ["place", "ahead"] M_is_place := by
  obtain ⟨fd, F⟩ := G.f_is_place
  have fx := G.fx
  refine ⟨fd, ?_⟩
  refine fn_okC (N := N_is_place) (st := st_is_place) (k := 1) F ⟨rfl, rfl, rfl, by decide +kernel, rfl, by decide +kernel, by decide +kernel⟩ rfl (fun _ _ _ _ _ _ us hl => match us, hl with | [_, _], _ => rfl) fun cdv A outer s H E hcd hp hr W tk => ?_
  have nd : N_is_place.Nodup := by decide +kernel
  have hu1 := ru1 hr
  have hu64 := ru64 hr
  have hu65 := ru65 hr
  exact (sSs_cons (sS_if (sT_bop (sW_or (sT_not (sT_val (sE_b c_isi rfl fx.n_isinstance bb_isinstance (sA_cons (sE_var 0) (sA_cons (sE_ty rfl fx.n_tuple bb_tuple) sA_nil))))) (sW_or (sT_cmp (o_ne hu64) (sE_b c_len rfl fx.n_len bb_len (sA_cons (sE_var 0) sA_nil)) sE_int (by with_unfolding_all rfl)) (sW_or1 (sT_not (sT_val (qE_call (ps := ["thing", "least", "most"]) (m := M_is_word) (ok_is_word G) (hr.mono (by decide)) fx.d_is_word tk (sA_cons (sE_ix hu1 (sE_var 0) sE_int) (sA_cons (qE_gint fx.i_PLACE_SIZE) (sA_cons (qE_gint fx.i_PLACE_SIZE) sA_nil)))))))))) (sSs_one (sS_ret sE_bool)) sSs_nil)
    (sSs_one (sS_ret (sE_and (sE_cmp (o_notin hu65) (sE_ix hu1 (sE_var 0) sE_int) (sE_comp (own := [("name", 2), ("change", 3)]) rfl nd (pI_any (sE_var 1)) (blkOk_by (by kernel_rfl)) (fun _ _ _ _ _ => (sC_tup rfl (sCs_cons (sC_name (i := 2) nd rfl (by first | exact .inl rfl | exact .inr rfl) (by decide)) (sCs_cons (sC_name (i := 3) nd rfl (by first | exact .inl rfl | exact .inr rfl) (by decide)) sCs_nil)))) (fun _ _ _ _ _ => sIf_nil) (fun _ _ _ _ _ => (sE_var 2))) (by with_unfolding_all rfl)) (sE_one (qE_call (ps := ["thing", "low", "high"]) (m := M_is_number) (ok_is_number G) (hr.mono (by decide)) fx.d_is_number tk (sA_cons (sE_ix hu1 (sE_var 0) sE_int) (sA_cons (qE_gint fx.i_LEAST_CHANGE) (sA_cons (qE_gint fx.i_MOST_CHANGE) sA_nil)))))))))
/-! #### need_net -/
abbrev st_need_net : Stmt := (top 45)
abbrev N_need_net : List Str := ["net", "places", "legs", "number", "place", "names", "leg", "name", "change"]
def b_need_net : MS := sSeq (sIf (tOrM (tNotM (tTru (eB fIsi (aCons (eV 0) (aCons (eC (.ty "tuple")) (aNil)))))) (tOf (eBin (lv dNe) (eB fLen (aCons (eV 0) (aNil))) (eC (.int 2))))) (sStuck) (sNil))
  (sSeq (sAsg (eV 0) (gTupD 2 (gsCons (gV 1) (gsCons (gV 2) (gsNil)))))
  (sSeq (sIf (tOrM (tNotM (tTru (eB fIsi (aCons (eV 1) (aCons (eC (.ty "tuple")) (aNil)))))) (tOf (eBin (lv dEq) (eV 1) (eTup (aNil))))) (sStuck) (sNil))
  (sSeq (sFor (iEnumD (aCons (eV 1) (aNil))) (gTupD 2 (gsCons (gV 3) (gsCons (gV 4) (gsNil)))) (sIf (tOrM (tOf (eBin (lv dEq) (eV 3) (eC (.int 12)))) (tNotM (tTru (eCall 2 M_is_place (aCons (eV 4) (aCons (eCut (eV 1) (pNo) (pSome (eV 3))) (aNil))))))) (sStuck) (sNil)))
  (sSeq (sIf (tNotM (tTru (eB fIsi (aCons (eV 2) (aCons (eC (.ty "tuple")) (aNil)))))) (sStuck) (sNil))
  (sSeq (sSet 5 (eComp (iAny (eV 1)) (gTupD 2 (gsCons (gV 7) (gsCons (gV 8) (gsNil)))) (tYesM) (eV 7) [7, 8]))
  (sFor (iEnumD (aCons (eV 2) (aNil))) (gTupD 2 (gsCons (gV 3) (gsCons (gV 6) (gsNil)))) (sIf (tOrM (tOf (eBin (lv dEq) (eV 3) (eC (.int 60)))) (tNotM (tTru (eCall 3 M_is_leg (aCons (eV 6) (aCons (eCut (eV 2) (pNo) (pSome (eV 3))) (aCons (eV 5) (aNil)))))))) (sStuck) (sNil))))))))
def M_need_net : MF := bodyM 8 b_need_net
theorem ok_need_net {P : Program} {w : World} {K : PySem.W.Frag} {mg : Str → Option Value} {base : Heap} (G : Gx P w K mg base) : FnE P w K mg base 4 (He.ga K "need_net") ["net"] M_need_net := by
  obtain ⟨fd, F⟩ := G.f_need_net
  have fx := G.fx
  refine ⟨fd, ?_⟩
  refine fn_okC (N := N_need_net) (st := st_need_net) (k := 3) F ⟨rfl, rfl, rfl, by decide +kernel, rfl, by decide +kernel, by decide +kernel⟩ rfl (fun _ _ _ _ _ _ us hl => match us, hl with | [_], _ => rfl) fun cdv A outer s H E hcd hp hr W tk => ?_
  have nd : N_need_net.Nodup := by decide +kernel
  have hu1 := ru1 hr
  have hu64 := ru64 hr
  have hu65 := ru65 hr
  exact (sSs_cons (sS_if (sT_bop (sW_or (sT_not (sT_val (sE_b c_isi rfl fx.n_isinstance bb_isinstance (sA_cons (sE_var 0) (sA_cons (sE_ty rfl fx.n_tuple bb_tuple) sA_nil))))) (sW_or1 (sT_cmp (o_ne hu64) (sE_b c_len rfl fx.n_len bb_len (sA_cons (sE_var 0) sA_nil)) sE_int (by with_unfolding_all rfl))))) (sSs_one sS_never) sSs_nil)
    (sSs_cons (sS_asg (sE_var 0) (sG_tup rfl (sGs_cons (sG_name (i := 1) nd rfl (by first | exact .inl rfl | exact .inr rfl)) (sGs_cons (sG_name (i := 2) nd rfl (by first | exact .inl rfl | exact .inr rfl)) sGs_nil))))
    (sSs_cons (sS_if (sT_bop (sW_or (sT_not (sT_val (sE_b c_isi rfl fx.n_isinstance bb_isinstance (sA_cons (sE_var 1) (sA_cons (sE_ty rfl fx.n_tuple bb_tuple) sA_nil))))) (sW_or1 (sT_cmp (o_eq hu64) (sE_var 1) (sE_tup sA_nil) (by with_unfolding_all rfl))))) (sSs_one sS_never) sSs_nil)
    (sSs_cons (sS_for hp rfl (pI_enum rfl fx.n_enumerate (sA_cons (sE_var 1) sA_nil)) (sG_tup rfl (sGs_cons (sG_name (i := 3) nd rfl (by first | exact .inl rfl | exact .inr rfl)) (sGs_cons (sG_name (i := 4) nd rfl (by first | exact .inl rfl | exact .inr rfl)) sGs_nil))) (sSs_one (sS_if (sT_bop (sW_or (sT_cmp (o_eq hu64) (sE_var 3) (qE_gint fx.i_MOST_PLACES) (by with_unfolding_all rfl)) (sW_or1 (sT_not (sT_val (qE_call (ps := ["place", "ahead"]) (m := M_is_place) (ok_is_place G) (hr.mono (by decide)) fx.d_is_place tk (sA_cons (sE_var 4) (sA_cons (sE_cut (sE_var 1) sp_no (sp_some (sE_var 3))) sA_nil)))))))) (sSs_one sS_never) sSs_nil)))
    (sSs_cons (sS_if (sT_not (sT_val (sE_b c_isi rfl fx.n_isinstance bb_isinstance (sA_cons (sE_var 2) (sA_cons (sE_ty rfl fx.n_tuple bb_tuple) sA_nil))))) (sSs_one sS_never) sSs_nil)
    (sSs_cons (sS_setComp (own := [("name", 7), ("change", 8)]) (i := 5) rfl nd rfl rfl rfl (pI_any (sE_var 1)) (blkOk_by (by kernel_rfl)) (fun _ _ _ _ _ => (sC_tup rfl (sCs_cons (sC_name (i := 7) nd rfl (by first | exact .inl rfl | exact .inr rfl) (by decide)) (sCs_cons (sC_name (i := 8) nd rfl (by first | exact .inl rfl | exact .inr rfl) (by decide)) sCs_nil)))) (fun _ _ _ _ _ => sIf_nil) (fun _ _ _ _ _ => (sE_var 7)))
    (sSs_one (sS_for hp rfl (pI_enum rfl fx.n_enumerate (sA_cons (sE_var 2) sA_nil)) (sG_tup rfl (sGs_cons (sG_name (i := 3) nd rfl (by first | exact .inl rfl | exact .inr rfl)) (sGs_cons (sG_name (i := 6) nd rfl (by first | exact .inl rfl | exact .inr rfl)) sGs_nil))) (sSs_one (sS_if (sT_bop (sW_or (sT_cmp (o_eq hu64) (sE_var 3) (qE_gint fx.i_MOST_LEGS) (by with_unfolding_all rfl)) (sW_or1 (sT_not (sT_val (qE_call (ps := ["leg", "ahead", "names"]) (m := M_is_leg) (ok_is_leg G) (hr.mono (by decide)) fx.d_is_leg tk (sA_cons (sE_var 6) (sA_cons (sE_cut (sE_var 2) sp_no (sp_some (sE_var 3))) (sA_cons (sE_var 5) sA_nil))))))))) (sSs_one sS_never) sSs_nil))))))))))
/-! #### Net.__init__ -/
abbrev st_Net_init__ : Stmt := (inClass (top 46) 0)
abbrev N_Net_init__ : List Str := ["self", "net", "places", "legs", "leg"]
def b_Net_init__ : MS := sSeq (sExpr (eCall 1 M_need_net (aCons (eV 1) (aNil))))
  (sSeq (sAsg (eV 1) (gTupD 2 (gsCons (gV 2) (gsCons (gV 3) (gsNil)))))
  (sSeq (sFldM "Net" "changes" (eV 0) (eDictP (aCons (eV 2) (aNil))))
  (sFldM "Net" "legs" (eV 0) (eDComp (iAny (eV 3)) (gV 4) (tYesM) (eBin fIx (eV 4) (eC (.int 0))) (eV 4) [4]))))
def M_Net_init__ : MF := bodyM 3 b_Net_init__
theorem ok_Net_init__ {P : Program} {w : World} {K : PySem.W.Frag} {mg : Str → Option Value} {base : Heap} (G : Gx P w K mg base) : FnE P w K mg base 5 (He.ma K (He.ga K "Net") "__init__") ["self", "net"] M_Net_init__ := by
  obtain ⟨fd, F⟩ := G.f_Net_init__
  have fx := G.fx
  refine ⟨fd, ?_⟩
  refine fn_okC (N := N_Net_init__) (st := st_Net_init__) (k := 4) F ⟨rfl, rfl, rfl, by decide +kernel, rfl, by decide +kernel, by decide +kernel⟩ rfl (fun _ _ _ _ _ _ us hl => match us, hl with | [_, _], _ => rfl) fun cdv A outer s H E hcd hp hr W tk => ?_
  have nd : N_Net_init__.Nodup := by decide +kernel
  have hu1 := ru1 hr
  have hu64 := ru64 hr
  have hu65 := ru65 hr
  exact (sSs_cons (sS_expr (qE_call (ps := ["net"]) (m := M_need_net) (ok_need_net G) (hr.mono (by decide)) fx.d_need_net tk (sA_cons (sE_var 1) sA_nil)))
    (sSs_cons (sS_asg (sE_var 1) (sG_tup rfl (sGs_cons (sG_name (i := 2) nd rfl (by first | exact .inl rfl | exact .inr rfl)) (sGs_cons (sG_name (i := 3) nd rfl (by first | exact .inl rfl | exact .inr rfl)) sGs_nil))))
    (sSs_cons (sS_fld (sE_dictP rfl rfl fx.n_dict bb_dict (sA_cons (sE_var 2) sA_nil)) (sE_var 0) fx.d_Net fx.c_Net fx.a_Net_changes)
    (sSs_one (sS_fld (sE_dcomp (own := [("leg", 4)]) rfl nd (pI_any (sE_var 3)) (blkOk_by (by kernel_rfl)) (fun _ _ _ _ _ => (sC_name (i := 4) nd rfl (by first | exact .inl rfl | exact .inr rfl) (by decide))) (fun _ _ _ _ _ => sIf_nil) (fun _ _ _ _ _ => (sE_ix hu1 (sE_var 4) sE_int)) (fun _ _ _ _ _ => (sE_var 4))) (sE_var 0) fx.d_Net fx.c_Net fx.a_Net_legs)))))
/-! #### judged_duty -/
abbrev st_judged_duty : Stmt := (top 57)
abbrev N_judged_duty : List Str := ["net", "rides", "held"]
def b_judged_duty : MS := sSeq (sSet 2 (eMake "Net" 2 M_Net_init__ (aCons (eV 0) (aNil))))
  (sSeq (sExpr (eCall 2 M_need_rides (aCons (eV 2) (aCons (eV 1) (aNil)))))
  (sRet (eCall 2 M_duty_word (aCons (eV 2) (aCons (eV 1) (aNil))))))
def M_judged_duty : MF := bodyM 1 b_judged_duty
theorem ok_judged_duty {P : Program} {w : World} {K : PySem.W.Frag} {mg : Str → Option Value} {base : Heap} (G : Gx P w K mg base) : FnE P w K mg base 7 (He.ga K "judged_duty") ["net", "rides"] M_judged_duty := by
  obtain ⟨fd, F⟩ := G.f_judged_duty
  have fx := G.fx
  refine ⟨fd, ?_⟩
  refine fn_okC (N := N_judged_duty) (st := st_judged_duty) (k := 6) F ⟨rfl, rfl, rfl, by decide +kernel, rfl, by decide +kernel, by decide +kernel⟩ rfl (fun _ _ _ _ _ _ us hl => match us, hl with | [_, _], _ => rfl) fun cdv A outer s H E hcd hp hr W tk => ?_
  have nd : N_judged_duty.Nodup := by decide +kernel
  have hu1 := ru1 hr
  have hu64 := ru64 hr
  have hu65 := ru65 hr
  exact (sSs_cons (sS_set (i := 2) nd rfl (by first | exact .inl rfl | exact .inr rfl) (qE_make (ps := ["self", "net"]) (mi := M_Net_init__) fx.d_Net fx.k_Net (ok_Net_init__ G) (hr.mono (by decide)) tk (sA_cons (sE_var 0) sA_nil)))
    (sSs_cons (sS_expr (qE_call (ps := ["held", "rides"]) (m := M_need_rides) (ok_need_rides G) (hr.mono (by decide)) fx.d_need_rides tk (sA_cons (sE_var 2) (sA_cons (sE_var 1) sA_nil))))
    (sSs_one (sS_ret (qE_call (ps := ["held", "rides"]) (m := M_duty_word) (ok_duty_word G) (hr.mono (by decide)) fx.d_duty_word tk (sA_cons (sE_var 2) (sA_cons (sE_var 1) sA_nil)))))))
/-! #### cut -/
abbrev st_cut : Stmt := (top 59)
abbrev N_cut : List Str := ["net", "rides", "held", "found", "begin", "end"]
def b_cut : MS := sSeq (sSet 2 (eMake "Net" 2 M_Net_init__ (aCons (eV 0) (aNil))))
  (sSeq (sExpr (eCall 2 M_need_rides (aCons (eV 2) (aCons (eV 1) (aNil)))))
  (sSeq (sIf (tOf (eBin fIn (eCall 2 M_duty_word (aCons (eV 2) (aCons (eV 1) (aNil)))) (eTup (aCons (eC (.str "place")) (aCons (eC (.str "gap")) (aNil)))))) (sRaise "BadChain") (sNil))
  (sSeq (sPar 3 4 (aCons (eLstM (aNil)) (aCons (eC (.int 0)) (aNil))))
  (sSeq (sWhile (tOf (eBin (lv dLt) (eV 4) (eB fLen (aCons (eV 1) (aNil))))) (sSeq (sSet 5 (eB fLen (aCons (eV 1) (aNil))))
  (sSeq (sWhile (tOf (eBin (lv dNe) (eCall 2 M_duty_word (aCons (eV 2) (aCons (eCut (eV 1) (pSome (eV 4)) (pSome (eV 5))) (aNil)))) (eC (.str "")))) (sSeq (sAug 5 (lv (oI fun i j => i - j)) (eC (.int 1)))
  (sIf (tOf (eBin (lv dEq) (eV 5) (eV 4))) (sRaise "NoDuty") (sNil))) fuelW)
  (sSeq (sExpr (eM isLstB bAppend (eV 3) (aCons (eCut (eV 1) (pSome (eV 4)) (pSome (eV 5))) (aNil))))
  (sSet 4 (eV 5))))) fuelW)
  (sRet (eV 3))))))
def M_cut : MF := bodyM 4 b_cut
theorem ok_cut {P : Program} {w : World} {K : PySem.W.Frag} {mg : Str → Option Value} {base : Heap} (G : Gx P w K mg base) : FnE P w K mg base 7 (He.ga K "cut") ["net", "rides"] M_cut := by
  obtain ⟨fd, F⟩ := G.f_cut
  have fx := G.fx
  refine ⟨fd, ?_⟩
  refine fn_okC (N := N_cut) (st := st_cut) (k := 6) F ⟨rfl, rfl, rfl, by decide +kernel, rfl, by decide +kernel, by decide +kernel⟩ rfl (fun _ _ _ _ _ _ us hl => match us, hl with | [_, _], _ => rfl) fun cdv A outer s H E hcd hp hr W tk => ?_
  have nd : N_cut.Nodup := by decide +kernel
  have hu1 := ru1 hr
  have hu64 := ru64 hr
  have hu65 := ru65 hr
  exact (sSs_cons (sS_set (i := 2) nd rfl (by first | exact .inl rfl | exact .inr rfl) (qE_make (ps := ["self", "net"]) (mi := M_Net_init__) fx.d_Net fx.k_Net (ok_Net_init__ G) (hr.mono (by decide)) tk (sA_cons (sE_var 0) sA_nil)))
    (sSs_cons (sS_expr (qE_call (ps := ["held", "rides"]) (m := M_need_rides) (ok_need_rides G) (hr.mono (by decide)) fx.d_need_rides tk (sA_cons (sE_var 2) (sA_cons (sE_var 1) sA_nil))))
    (sSs_cons (sS_if (sT_cmp (o_in hu65) (qE_call (ps := ["held", "rides"]) (m := M_duty_word) (ok_duty_word G) (hr.mono (by decide)) fx.d_duty_word tk (sA_cons (sE_var 2) (sA_cons (sE_var 1) sA_nil))) (sE_tup (sA_cons sE_str (sA_cons sE_str sA_nil))) (by with_unfolding_all rfl)) (sSs_one (sS_raise rfl tk fx.x_BadChain fx.d_BadChain rfl)) sSs_nil)
    (sSs_cons (sS_par (i := 3) (j := 4) rfl nd rfl rfl (by decide) rfl rfl (sA_cons (sE_lstM sA_nil) (sA_cons sE_int sA_nil)))
    (sSs_cons (sS_while hp fuelW (sT_cmp o_lt (sE_var 4) (sE_b c_len rfl fx.n_len bb_len (sA_cons (sE_var 1) sA_nil)) (by with_unfolding_all rfl)) (sSs_cons (sS_set (i := 5) nd rfl (by first | exact .inl rfl | exact .inr rfl) (sE_b c_len rfl fx.n_len bb_len (sA_cons (sE_var 1) sA_nil)))
    (sSs_cons (sS_while hp fuelW (sT_cmp (o_ne hu64) (qE_call (ps := ["held", "rides"]) (m := M_duty_word) (ok_duty_word G) (hr.mono (by decide)) fx.d_duty_word tk (sA_cons (sE_var 2) (sA_cons (sE_cut (sE_var 1) (sp_some (sE_var 4)) (sp_some (sE_var 5))) sA_nil))) sE_str (by with_unfolding_all rfl)) (sSs_cons (sS_aug (i := 5) nd rfl (by first | exact .inl rfl | exact .inr rfl) sE_int i_sub)
    (sSs_one (sS_if (sT_cmp (o_eq hu64) (sE_var 5) (sE_var 4) (by with_unfolding_all rfl)) (sSs_one (sS_raise rfl tk fx.x_NoDuty fx.d_NoDuty rfl)) sSs_nil))))
    (sSs_cons (sS_expr (sE_m ty_lst PySem.F.plainAttrs_list PySem.F.slot_list_append PySem.F.type_list_append m_append (sE_var 3) (sA_cons (sE_cut (sE_var 1) (sp_some (sE_var 4)) (sp_some (sE_var 5))) sA_nil)))
    (sSs_one (sS_set (i := 4) nd rfl (by first | exact .inl rfl | exact .inr rfl) (sE_var 5)))))))
    (sSs_one (sS_ret (sE_var 3))))))))
/-! #### rested -/
abbrev st_rested : Stmt := (top 58)
abbrev N_rested : List Str := ["net", "duties", "held", "rides", "number", "word", "last", "begun", "ended"]
def b_rested : MS := sSeq (sSet 2 (eMake "Net" 2 M_Net_init__ (aCons (eV 0) (aNil))))
  (sSeq (sFor (iAny (eV 1)) (gV 3) (sExpr (eCall 2 M_need_rides (aCons (eV 2) (aCons (eV 3) (aNil))))))
  (sSeq (sFor (iEnumD (aCons (eV 1) (aNil))) (gTupD 2 (gsCons (gV 4) (gsCons (gV 3) (gsNil)))) (sSeq (sSet 5 (eCall 2 M_duty_word (aCons (eV 2) (aCons (eV 3) (aNil)))))
  (sSeq (sIf (tOf (eBin (lv dNe) (eV 5) (eC (.str "")))) (sRet (eTup (aCons (eV 4) (aCons (eV 5) (aNil))))) (sNil))
  (sIf (tOf (eBin (lv dGt) (eV 4) (eC (.int 0)))) (sSeq (sSet 6 (eBin fIx (eV 1) (eBin (lv dSub) (eV 4) (eC (.int 1)))))
  (sSeq (sPar 7 8 (aCons (eBin (lv dSub) (eMeth "Net" "leave" 2 M_Net_leave (eV 2) (aCons (eBin fIx (eV 6) (eC (.int 0))) (aNil))) (eC (.int 60))) (aCons (eBin (lv0 dAdd) (eMeth "Net" "arrive" 2 M_Net_arrive (eV 2) (aCons (eBin fIx (eV 6) (eNeg (eC (.int 1)))) (aNil))) (eC (.int 30))) (aNil))))
  (sSeq (sIf (tOf (eBin (lv dNe) (eMeth "Net" "goal" 2 M_Net_goal (eV 2) (aCons (eBin fIx (eV 6) (eNeg (eC (.int 1)))) (aNil))) (eMeth "Net" "start" 2 M_Net_start (eV 2) (aCons (eBin fIx (eV 3) (eC (.int 0))) (aNil))))) (sRet (eTup (aCons (eV 4) (aCons (eC (.str "place")) (aNil))))) (sNil))
  (sIf (tOf (eBin (lv dLt) (eBin (lv dSub) (eMeth "Net" "leave" 2 M_Net_leave (eV 2) (aCons (eBin fIx (eV 3) (eC (.int 0))) (aNil))) (eC (.int 60))) (eBin (lv0 dAdd) (eV 8) (eB fMax2 (aCons (eC (.int 600)) (aCons (eBin (lv dSub) (eV 8) (eV 7)) (aNil))))))) (sRet (eTup (aCons (eV 4) (aCons (eC (.str "rest")) (aNil))))) (sNil))))) (sNil)))))
  (sRet (eC .none))))
def M_rested : MF := bodyM 7 b_rested
theorem ok_rested {P : Program} {w : World} {K : PySem.W.Frag} {mg : Str → Option Value} {base : Heap} (G : Gx P w K mg base) : FnE P w K mg base 7 (He.ga K "rested") ["net", "duties"] M_rested := by
  obtain ⟨fd, F⟩ := G.f_rested
  have fx := G.fx
  refine ⟨fd, ?_⟩
  refine fn_okC (N := N_rested) (st := st_rested) (k := 6) F ⟨rfl, rfl, rfl, by decide +kernel, rfl, by decide +kernel, by decide +kernel⟩ rfl (fun _ _ _ _ _ _ us hl => match us, hl with | [_, _], _ => rfl) fun cdv A outer s H E hcd hp hr W tk => ?_
  have nd : N_rested.Nodup := by decide +kernel
  have hu1 := ru1 hr
  have hu64 := ru64 hr
  have hu65 := ru65 hr
  exact (sSs_cons (sS_set (i := 2) nd rfl (by first | exact .inl rfl | exact .inr rfl) (qE_make (ps := ["self", "net"]) (mi := M_Net_init__) fx.d_Net fx.k_Net (ok_Net_init__ G) (hr.mono (by decide)) tk (sA_cons (sE_var 0) sA_nil)))
    (sSs_cons (sS_for hp rfl (pI_any (sE_var 1)) (sG_name (i := 3) nd rfl (by first | exact .inl rfl | exact .inr rfl)) (sSs_one (sS_expr (qE_call (ps := ["held", "rides"]) (m := M_need_rides) (ok_need_rides G) (hr.mono (by decide)) fx.d_need_rides tk (sA_cons (sE_var 2) (sA_cons (sE_var 3) sA_nil))))))
    (sSs_cons (sS_for hp rfl (pI_enum rfl fx.n_enumerate (sA_cons (sE_var 1) sA_nil)) (sG_tup rfl (sGs_cons (sG_name (i := 4) nd rfl (by first | exact .inl rfl | exact .inr rfl)) (sGs_cons (sG_name (i := 3) nd rfl (by first | exact .inl rfl | exact .inr rfl)) sGs_nil))) (sSs_cons (sS_set (i := 5) nd rfl (by first | exact .inl rfl | exact .inr rfl) (qE_call (ps := ["held", "rides"]) (m := M_duty_word) (ok_duty_word G) (hr.mono (by decide)) fx.d_duty_word tk (sA_cons (sE_var 2) (sA_cons (sE_var 3) sA_nil))))
    (sSs_cons (sS_if (sT_cmp (o_ne hu64) (sE_var 5) sE_str (by with_unfolding_all rfl)) (sSs_one (sS_ret (sE_tup (sA_cons (sE_var 4) (sA_cons (sE_var 5) sA_nil))))) sSs_nil)
    (sSs_one (sS_if (sT_cmp o_gt (sE_var 4) sE_int (by with_unfolding_all rfl)) (sSs_cons (sS_set (i := 6) nd rfl (by first | exact .inl rfl | exact .inr rfl) (sE_ix hu1 (sE_var 1) (sE_bin o_sub (sE_var 4) sE_int)))
    (sSs_cons (sS_par (i := 7) (j := 8) rfl nd rfl rfl (by decide) rfl rfl (sA_cons (sE_bin o_sub (qE_meth (pl := plainOf _ _) (ps := ["self", "ride"]) (m := M_Net_leave) (sE_var 2) fx.d_Net fx.c_Net fx.m_Net_leave (ok_Net_leave G) (hr.mono (by decide)) tk (sA_cons (sE_ix hu1 (sE_var 6) sE_int) sA_nil)) (qE_gint fx.i_AHEAD)) (sA_cons (sE_bin o_add (qE_meth (pl := plainOf _ _) (ps := ["self", "ride"]) (m := M_Net_arrive) (sE_var 2) fx.d_Net fx.c_Net fx.m_Net_arrive (ok_Net_arrive G) (hr.mono (by decide)) tk (sA_cons (sE_ix hu1 (sE_var 6) (sE_neg sE_int)) sA_nil)) (qE_gint fx.i_BEHIND)) sA_nil)))
    (sSs_cons (sS_if (sT_cmp (o_ne hu64) (qE_meth (pl := plainOf _ _) (ps := ["self", "ride"]) (m := M_Net_goal) (sE_var 2) fx.d_Net fx.c_Net fx.m_Net_goal (ok_Net_goal G) (hr.mono (by decide)) tk (sA_cons (sE_ix hu1 (sE_var 6) (sE_neg sE_int)) sA_nil)) (qE_meth (pl := plainOf _ _) (ps := ["self", "ride"]) (m := M_Net_start) (sE_var 2) fx.d_Net fx.c_Net fx.m_Net_start (ok_Net_start G) (hr.mono (by decide)) tk (sA_cons (sE_ix hu1 (sE_var 3) sE_int) sA_nil)) (by with_unfolding_all rfl)) (sSs_one (sS_ret (sE_tup (sA_cons (sE_var 4) (sA_cons sE_str sA_nil))))) sSs_nil)
    (sSs_one (sS_if (sT_cmp o_lt (sE_bin o_sub (qE_meth (pl := plainOf _ _) (ps := ["self", "ride"]) (m := M_Net_leave) (sE_var 2) fx.d_Net fx.c_Net fx.m_Net_leave (ok_Net_leave G) (hr.mono (by decide)) tk (sA_cons (sE_ix hu1 (sE_var 3) sE_int) sA_nil)) (qE_gint fx.i_AHEAD)) (sE_bin o_add (sE_var 8) (sE_b (c_max2 rfl) rfl fx.n_max bb_max (sA_cons (qE_gint fx.i_LEAST_REST) (sA_cons (sE_bin o_sub (sE_var 8) (sE_var 7)) sA_nil)))) (by with_unfolding_all rfl)) (sSs_one (sS_ret (sE_tup (sA_cons (sE_var 4) (sA_cons sE_str sA_nil))))) sSs_nil))))) sSs_nil)))))
    (sSs_one (sS_ret sE_none)))))
/-! #### _law_leg -/
abbrev st_law_leg : Stmt := (top 68)
abbrev N_law_leg : List Str := ["_law_net_here", "_law_ride", "_law_leg_here"]
def b_law_leg : MS := sRet (eBin fIx (eComp (iAny (eBin fIx (eV 0) (eC (.int 1)))) (gV 2) (tOf (eBin (lv dEq) (eBin fIx (eV 2) (eC (.int 0))) (eBin fIx (eV 1) (eC (.int 1))))) (eV 2) [2]) (eC (.int 0)))
def M_law_leg : MF := bodyM 1 b_law_leg
theorem ok_law_leg {P : Program} {w : World} {K : PySem.W.Frag} {mg : Str → Option Value} {base : Heap} (G : Gx P w K mg base) : FnE P w K mg base 1 (He.ga K "_law_leg") ["_law_net_here", "_law_ride"] M_law_leg := by
  obtain ⟨fd, F⟩ := G.f_law_leg
  have fx := G.fx
  refine ⟨fd, ?_⟩
  refine fn_okC (N := N_law_leg) (st := st_law_leg) (k := 0) F ⟨rfl, rfl, rfl, by decide +kernel, rfl, by decide +kernel, by decide +kernel⟩ rfl (fun _ _ _ _ _ _ us hl => match us, hl with | [_, _], _ => rfl) fun cdv A outer s H E hcd hp hr W tk => ?_
  have nd : N_law_leg.Nodup := by decide +kernel
  have hu1 := ru1 hr
  have hu64 := ru64 hr
  have hu65 := ru65 hr
  exact (sSs_one (sS_ret (sE_ix hu1 (sE_comp (own := [("_law_leg_here", 2)]) rfl nd (pI_any (sE_ix hu1 (sE_var 0) sE_int)) (blkOk_by (by kernel_rfl)) (fun _ _ _ _ _ => (sC_name (i := 2) nd rfl (by first | exact .inl rfl | exact .inr rfl) (by decide))) (fun _ _ _ _ _ => (sIf_one (sT_cmp (o_eq hu64) (sE_ix hu1 (sE_var 2) sE_int) (sE_ix hu1 (sE_var 1) sE_int) (by with_unfolding_all rfl)))) (fun _ _ _ _ _ => (sE_var 2))) sE_int)))
/-! #### _law_leave -/
abbrev st_law_leave : Stmt := (top 67)
abbrev N_law_leave : List Str := ["_law_net_here", "_law_ride", "_law_leg_here"]
def b_law_leave : MS := sRet (eBin (lv0 dAdd) (eBin (lv dMulI) (eC (.int 1440)) (eBin fIx (eV 1) (eC (.int 0)))) (eBin fIx (eBin fIx (eComp (iAny (eBin fIx (eV 0) (eC (.int 1)))) (gV 2) (tOf (eBin (lv dEq) (eBin fIx (eV 2) (eC (.int 0))) (eBin fIx (eV 1) (eC (.int 1))))) (eV 2) [2]) (eC (.int 0))) (eC (.int 3))))
def M_law_leave : MF := bodyM 1 b_law_leave
theorem ok_law_leave {P : Program} {w : World} {K : PySem.W.Frag} {mg : Str → Option Value} {base : Heap} (G : Gx P w K mg base) : FnE P w K mg base 1 (He.ga K "_law_leave") ["_law_net_here", "_law_ride"] M_law_leave := by
  obtain ⟨fd, F⟩ := G.f_law_leave
  have fx := G.fx
  refine ⟨fd, ?_⟩
  refine fn_okC (N := N_law_leave) (st := st_law_leave) (k := 0) F ⟨rfl, rfl, rfl, by decide +kernel, rfl, by decide +kernel, by decide +kernel⟩ rfl (fun _ _ _ _ _ _ us hl => match us, hl with | [_, _], _ => rfl) fun cdv A outer s H E hcd hp hr W tk => ?_
  have nd : N_law_leave.Nodup := by decide +kernel
  have hu1 := ru1 hr
  have hu64 := ru64 hr
  have hu65 := ru65 hr
  exact (sSs_one (sS_ret (sE_bin o_add (sE_bin o_mulI sE_int (sE_ix hu1 (sE_var 1) sE_int)) (sE_ix hu1 (sE_ix hu1 (sE_comp (own := [("_law_leg_here", 2)]) rfl nd (pI_any (sE_ix hu1 (sE_var 0) sE_int)) (blkOk_by (by kernel_rfl)) (fun _ _ _ _ _ => (sC_name (i := 2) nd rfl (by first | exact .inl rfl | exact .inr rfl) (by decide))) (fun _ _ _ _ _ => (sIf_one (sT_cmp (o_eq hu64) (sE_ix hu1 (sE_var 2) sE_int) (sE_ix hu1 (sE_var 1) sE_int) (by with_unfolding_all rfl)))) (fun _ _ _ _ _ => (sE_var 2))) sE_int) sE_int))))
/-! #### _law_times -/
abbrev st_law_times : Stmt := (top 70)
abbrev N_law_times : List Str := ["_law_net_here", "_law_ride", "_law_leave_here"]
def b_law_times : MS := sSeq (sSet 2 (eCall 2 M_law_leave (aCons (eV 0) (aCons (eV 1) (aNil)))))
  (sRet (eTup (aCons (eV 2) (aCons (eBin (lv0 dAdd) (eV 2) (eBin fIx (eCall 2 M_law_leg (aCons (eV 0) (aCons (eV 1) (aNil)))) (eC (.int 4)))) (aNil)))))
def M_law_times : MF := bodyM 1 b_law_times
theorem ok_law_times {P : Program} {w : World} {K : PySem.W.Frag} {mg : Str → Option Value} {base : Heap} (G : Gx P w K mg base) : FnE P w K mg base 2 (He.ga K "_law_times") ["_law_net_here", "_law_ride"] M_law_times := by
  obtain ⟨fd, F⟩ := G.f_law_times
  have fx := G.fx
  refine ⟨fd, ?_⟩
  refine fn_okC (N := N_law_times) (st := st_law_times) (k := 1) F ⟨rfl, rfl, rfl, by decide +kernel, rfl, by decide +kernel, by decide +kernel⟩ rfl (fun _ _ _ _ _ _ us hl => match us, hl with | [_, _], _ => rfl) fun cdv A outer s H E hcd hp hr W tk => ?_
  have nd : N_law_times.Nodup := by decide +kernel
  have hu1 := ru1 hr
  have hu64 := ru64 hr
  have hu65 := ru65 hr
  exact (sSs_cons (sS_set (i := 2) nd rfl (by first | exact .inl rfl | exact .inr rfl) (qE_call (ps := ["_law_net_here", "_law_ride"]) (m := M_law_leave) (ok_law_leave G) (hr.mono (by decide)) fx.d__law_leave tk (sA_cons (sE_var 0) (sA_cons (sE_var 1) sA_nil))))
    (sSs_one (sS_ret (sE_tup (sA_cons (sE_var 2) (sA_cons (sE_bin o_add (sE_var 2) (sE_ix hu1 (qE_call (ps := ["_law_net_here", "_law_ride"]) (m := M_law_leg) (ok_law_leg G) (hr.mono (by decide)) fx.d__law_leg tk (sA_cons (sE_var 0) (sA_cons (sE_var 1) sA_nil))) sE_int)) sA_nil))))))
/-! #### _law_word -/
abbrev st_law_word : Stmt := (top 71)
abbrev N_law_word : List Str := ["_law_net_here", "_law_rides_here", "_law_k", "_law_long", "_law_ride"]
def b_law_word : MS := sSeq (sFor (iRng2D (aCons (eC (.int 1)) (aCons (eB fLen (aCons (eV 1) (aNil))) (aNil)))) (gV 2) (sSeq (sIf (tOf (eBin (lv dNe) (eBin fIx (eCall 2 M_law_leg (aCons (eV 0) (aCons (eBin fIx (eV 1) (eBin (lv dSub) (eV 2) (eC (.int 1)))) (aNil)))) (eC (.int 2))) (eBin fIx (eCall 2 M_law_leg (aCons (eV 0) (aCons (eBin fIx (eV 1) (eV 2)) (aNil)))) (eC (.int 1))))) (sRet (eC (.str "place"))) (sNil))
  (sIf (tOf (eBin (lv dGt) (eBin (lv0 dAdd) (eBin fIx (eCall 2 M_law_times (aCons (eV 0) (aCons (eBin fIx (eV 1) (eBin (lv dSub) (eV 2) (eC (.int 1)))) (aNil)))) (eC (.int 1))) (eC (.int 30))) (eBin fIx (eCall 2 M_law_times (aCons (eV 0) (aCons (eBin fIx (eV 1) (eV 2)) (aNil)))) (eC (.int 0))))) (sRet (eC (.str "gap"))) (sNil))))
  (sSeq (sIf (tOf (eBin (lv dGt) (eB fLen (aCons (eV 1) (aNil))) (eC (.int 4)))) (sRet (eC (.str "legs"))) (sNil))
  (sSeq (sIf (tOf (eBin (lv dGt) (eB fSum (aCons (eComp (iAny (eV 1)) (gV 4) (tYesM) (eBin fIx (eCall 2 M_law_leg (aCons (eV 0) (aCons (eV 4) (aNil)))) (eC (.int 4))) [4]) (aNil))) (eC (.int 540)))) (sRet (eC (.str "flown"))) (sNil))
  (sSeq (sSet 3 (eBin (lv0 dAdd) (eBin (lv dSub) (eBin fIx (eCall 2 M_law_times (aCons (eV 0) (aCons (eBin fIx (eV 1) (eBin (lv dSub) (eC (.int 0)) (eC (.int 1)))) (aNil)))) (eC (.int 1))) (eBin fIx (eCall 2 M_law_times (aCons (eV 0) (aCons (eBin fIx (eV 1) (eC (.int 0))) (aNil)))) (eC (.int 0)))) (eC (.int 90))))
  (sRet (eIf (tOf (eBin (lv dGt) (eV 3) (eC (.int 840)))) (eC (.str "long")) (eC (.str "")))))))
def M_law_word : MF := bodyM 3 b_law_word
theorem ok_law_word {P : Program} {w : World} {K : PySem.W.Frag} {mg : Str → Option Value} {base : Heap} (G : Gx P w K mg base) : FnE P w K mg base 3 (He.ga K "_law_word") ["_law_net_here", "_law_rides_here"] M_law_word := by
  obtain ⟨fd, F⟩ := G.f_law_word
  have fx := G.fx
  refine ⟨fd, ?_⟩
  refine fn_okC (N := N_law_word) (st := st_law_word) (k := 2) F ⟨rfl, rfl, rfl, by decide +kernel, rfl, by decide +kernel, by decide +kernel⟩ rfl (fun _ _ _ _ _ _ us hl => match us, hl with | [_, _], _ => rfl) fun cdv A outer s H E hcd hp hr W tk => ?_
  have nd : N_law_word.Nodup := by decide +kernel
  have hu1 := ru1 hr
  have hu64 := ru64 hr
  have hu65 := ru65 hr
  exact (sSs_cons (sS_for hp rfl (pI_rng2 rfl fx.n_range (sA_cons sE_int (sA_cons (sE_b c_len rfl fx.n_len bb_len (sA_cons (sE_var 1) sA_nil)) sA_nil))) (sG_name (i := 2) nd rfl (by first | exact .inl rfl | exact .inr rfl)) (sSs_cons (sS_if (sT_cmp (o_ne hu64) (sE_ix hu1 (qE_call (ps := ["_law_net_here", "_law_ride"]) (m := M_law_leg) (ok_law_leg G) (hr.mono (by decide)) fx.d__law_leg tk (sA_cons (sE_var 0) (sA_cons (sE_ix hu1 (sE_var 1) (sE_bin o_sub (sE_var 2) sE_int)) sA_nil))) sE_int) (sE_ix hu1 (qE_call (ps := ["_law_net_here", "_law_ride"]) (m := M_law_leg) (ok_law_leg G) (hr.mono (by decide)) fx.d__law_leg tk (sA_cons (sE_var 0) (sA_cons (sE_ix hu1 (sE_var 1) (sE_var 2)) sA_nil))) sE_int) (by with_unfolding_all rfl)) (sSs_one (sS_ret sE_str)) sSs_nil)
    (sSs_one (sS_if (sT_cmp o_gt (sE_bin o_add (sE_ix hu1 (qE_call (ps := ["_law_net_here", "_law_ride"]) (m := M_law_times) (ok_law_times G) (hr.mono (by decide)) fx.d__law_times tk (sA_cons (sE_var 0) (sA_cons (sE_ix hu1 (sE_var 1) (sE_bin o_sub (sE_var 2) sE_int)) sA_nil))) sE_int) sE_int) (sE_ix hu1 (qE_call (ps := ["_law_net_here", "_law_ride"]) (m := M_law_times) (ok_law_times G) (hr.mono (by decide)) fx.d__law_times tk (sA_cons (sE_var 0) (sA_cons (sE_ix hu1 (sE_var 1) (sE_var 2)) sA_nil))) sE_int) (by with_unfolding_all rfl)) (sSs_one (sS_ret sE_str)) sSs_nil))))
    (sSs_cons (sS_if (sT_cmp o_gt (sE_b c_len rfl fx.n_len bb_len (sA_cons (sE_var 1) sA_nil)) sE_int (by with_unfolding_all rfl)) (sSs_one (sS_ret sE_str)) sSs_nil)
    (sSs_cons (sS_if (sT_cmp o_gt (sE_b (c_sum rfl) rfl fx.n_sum bb_sum (sA_cons (sE_comp (own := [("_law_ride", 4)]) rfl nd (pI_any (sE_var 1)) (blkOk_by (by kernel_rfl)) (fun _ _ _ _ _ => (sC_name (i := 4) nd rfl (by first | exact .inl rfl | exact .inr rfl) (by decide))) (fun _ _ _ _ _ => sIf_nil) (fun _ _ _ _ _ => (sE_ix hu1 (qE_call (ps := ["_law_net_here", "_law_ride"]) (m := M_law_leg) (ok_law_leg G) (hr.mono (by decide)) fx.d__law_leg LamX.takes0 (sA_cons (sE_var 0) (sA_cons (sE_var 4) sA_nil))) sE_int))) sA_nil)) sE_int (by with_unfolding_all rfl)) (sSs_one (sS_ret sE_str)) sSs_nil)
    (sSs_cons (sS_set (i := 3) nd rfl (by first | exact .inl rfl | exact .inr rfl) (sE_bin o_add (sE_bin o_sub (sE_ix hu1 (qE_call (ps := ["_law_net_here", "_law_ride"]) (m := M_law_times) (ok_law_times G) (hr.mono (by decide)) fx.d__law_times tk (sA_cons (sE_var 0) (sA_cons (sE_ix hu1 (sE_var 1) (sE_bin o_sub sE_int sE_int)) sA_nil))) sE_int) (sE_ix hu1 (qE_call (ps := ["_law_net_here", "_law_ride"]) (m := M_law_times) (ok_law_times G) (hr.mono (by decide)) fx.d__law_times tk (sA_cons (sE_var 0) (sA_cons (sE_ix hu1 (sE_var 1) sE_int) sA_nil))) sE_int)) sE_int))
    (sSs_one (sS_ret (sE_if (sT_cmp o_gt (sE_var 3) sE_int (by with_unfolding_all rfl)) sE_str sE_str)))))))
/-! #### _law_rested -/
abbrev st_law_rested : Stmt := (top 72)
abbrev N_law_rested : List Str := ["_law_net_here", "_law_duties", "_law_k", "_law_word_here", "_law_last", "_law_begun", "_law_ended"]
def b_law_rested : MS := sSeq (sFor (iRng1D (aCons (eB fLen (aCons (eV 1) (aNil))) (aNil))) (gV 2) (sSeq (sSet 3 (eCall 2 M_law_word (aCons (eV 0) (aCons (eBin fIx (eV 1) (eV 2)) (aNil)))))
  (sSeq (sIf (tOf (eBin (lv dNe) (eV 3) (eC (.str "")))) (sRet (eTup (aCons (eV 2) (aCons (eV 3) (aNil))))) (sNil))
  (sIf (tOf (eBin (lv dGt) (eV 2) (eC (.int 0)))) (sSeq (sSet 4 (eBin fIx (eV 1) (eBin (lv dSub) (eV 2) (eC (.int 1)))))
  (sSeq (sPar 5 6 (aCons (eBin (lv dSub) (eBin fIx (eCall 2 M_law_times (aCons (eV 0) (aCons (eBin fIx (eV 4) (eC (.int 0))) (aNil)))) (eC (.int 0))) (eC (.int 60))) (aCons (eBin (lv0 dAdd) (eBin fIx (eCall 2 M_law_times (aCons (eV 0) (aCons (eBin fIx (eV 4) (eBin (lv dSub) (eC (.int 0)) (eC (.int 1)))) (aNil)))) (eC (.int 1))) (eC (.int 30))) (aNil))))
  (sSeq (sIf (tOf (eBin (lv dNe) (eBin fIx (eCall 2 M_law_leg (aCons (eV 0) (aCons (eBin fIx (eV 4) (eBin (lv dSub) (eC (.int 0)) (eC (.int 1)))) (aNil)))) (eC (.int 2))) (eBin fIx (eCall 2 M_law_leg (aCons (eV 0) (aCons (eBin fIx (eBin fIx (eV 1) (eV 2)) (eC (.int 0))) (aNil)))) (eC (.int 1))))) (sRet (eTup (aCons (eV 2) (aCons (eC (.str "place")) (aNil))))) (sNil))
  (sIf (tOf (eBin (lv dLt) (eBin (lv dSub) (eBin (lv dSub) (eBin fIx (eCall 2 M_law_times (aCons (eV 0) (aCons (eBin fIx (eBin fIx (eV 1) (eV 2)) (eC (.int 0))) (aNil)))) (eC (.int 0))) (eC (.int 60))) (eV 6)) (eB fMax2 (aCons (eC (.int 600)) (aCons (eBin (lv dSub) (eV 6) (eV 5)) (aNil)))))) (sRet (eTup (aCons (eV 2) (aCons (eC (.str "rest")) (aNil))))) (sNil))))) (sNil)))))
  (sRet (eC .none))
def M_law_rested : MF := bodyM 5 b_law_rested
theorem ok_law_rested {P : Program} {w : World} {K : PySem.W.Frag} {mg : Str → Option Value} {base : Heap} (G : Gx P w K mg base) : FnE P w K mg base 4 (He.ga K "_law_rested") ["_law_net_here", "_law_duties"] M_law_rested := by
  obtain ⟨fd, F⟩ := G.f_law_rested
  have fx := G.fx
  refine ⟨fd, ?_⟩
  refine fn_okC (N := N_law_rested) (st := st_law_rested) (k := 3) F ⟨rfl, rfl, rfl, by decide +kernel, rfl, by decide +kernel, by decide +kernel⟩ rfl (fun _ _ _ _ _ _ us hl => match us, hl with | [_, _], _ => rfl) fun cdv A outer s H E hcd hp hr W tk => ?_
  have nd : N_law_rested.Nodup := by decide +kernel
  have hu1 := ru1 hr
  have hu64 := ru64 hr
  have hu65 := ru65 hr
  exact (sSs_cons (sS_for hp rfl (pI_rng1 rfl fx.n_range (sA_cons (sE_b c_len rfl fx.n_len bb_len (sA_cons (sE_var 1) sA_nil)) sA_nil)) (sG_name (i := 2) nd rfl (by first | exact .inl rfl | exact .inr rfl)) (sSs_cons (sS_set (i := 3) nd rfl (by first | exact .inl rfl | exact .inr rfl) (qE_call (ps := ["_law_net_here", "_law_rides_here"]) (m := M_law_word) (ok_law_word G) (hr.mono (by decide)) fx.d__law_word tk (sA_cons (sE_var 0) (sA_cons (sE_ix hu1 (sE_var 1) (sE_var 2)) sA_nil))))
    (sSs_cons (sS_if (sT_cmp (o_ne hu64) (sE_var 3) sE_str (by with_unfolding_all rfl)) (sSs_one (sS_ret (sE_tup (sA_cons (sE_var 2) (sA_cons (sE_var 3) sA_nil))))) sSs_nil)
    (sSs_one (sS_if (sT_cmp o_gt (sE_var 2) sE_int (by with_unfolding_all rfl)) (sSs_cons (sS_set (i := 4) nd rfl (by first | exact .inl rfl | exact .inr rfl) (sE_ix hu1 (sE_var 1) (sE_bin o_sub (sE_var 2) sE_int)))
    (sSs_cons (sS_par (i := 5) (j := 6) rfl nd rfl rfl (by decide) rfl rfl (sA_cons (sE_bin o_sub (sE_ix hu1 (qE_call (ps := ["_law_net_here", "_law_ride"]) (m := M_law_times) (ok_law_times G) (hr.mono (by decide)) fx.d__law_times tk (sA_cons (sE_var 0) (sA_cons (sE_ix hu1 (sE_var 4) sE_int) sA_nil))) sE_int) sE_int) (sA_cons (sE_bin o_add (sE_ix hu1 (qE_call (ps := ["_law_net_here", "_law_ride"]) (m := M_law_times) (ok_law_times G) (hr.mono (by decide)) fx.d__law_times tk (sA_cons (sE_var 0) (sA_cons (sE_ix hu1 (sE_var 4) (sE_bin o_sub sE_int sE_int)) sA_nil))) sE_int) sE_int) sA_nil)))
    (sSs_cons (sS_if (sT_cmp (o_ne hu64) (sE_ix hu1 (qE_call (ps := ["_law_net_here", "_law_ride"]) (m := M_law_leg) (ok_law_leg G) (hr.mono (by decide)) fx.d__law_leg tk (sA_cons (sE_var 0) (sA_cons (sE_ix hu1 (sE_var 4) (sE_bin o_sub sE_int sE_int)) sA_nil))) sE_int) (sE_ix hu1 (qE_call (ps := ["_law_net_here", "_law_ride"]) (m := M_law_leg) (ok_law_leg G) (hr.mono (by decide)) fx.d__law_leg tk (sA_cons (sE_var 0) (sA_cons (sE_ix hu1 (sE_ix hu1 (sE_var 1) (sE_var 2)) sE_int) sA_nil))) sE_int) (by with_unfolding_all rfl)) (sSs_one (sS_ret (sE_tup (sA_cons (sE_var 2) (sA_cons sE_str sA_nil))))) sSs_nil)
    (sSs_one (sS_if (sT_cmp o_lt (sE_bin o_sub (sE_bin o_sub (sE_ix hu1 (qE_call (ps := ["_law_net_here", "_law_ride"]) (m := M_law_times) (ok_law_times G) (hr.mono (by decide)) fx.d__law_times tk (sA_cons (sE_var 0) (sA_cons (sE_ix hu1 (sE_ix hu1 (sE_var 1) (sE_var 2)) sE_int) sA_nil))) sE_int) sE_int) (sE_var 6)) (sE_b (c_max2 rfl) rfl fx.n_max bb_max (sA_cons sE_int (sA_cons (sE_bin o_sub (sE_var 6) (sE_var 5)) sA_nil))) (by with_unfolding_all rfl)) (sSs_one (sS_ret (sE_tup (sA_cons (sE_var 2) (sA_cons sE_str sA_nil))))) sSs_nil))))) sSs_nil)))))
    (sSs_one (sS_ret sE_none)))
/-! #### _law_same -/
abbrev st_law_same : Stmt := (top 63)
abbrev N_law_same : List Str := ["_law_found", "_law_due", "_law_alike", "_law_k"]
def M_law_same : Nat → MF
  | 0 => bodyM 2 sStuck
  | n + 1 => bodyM 2 (sSeq (sIf (tTru (eB fIsi (aCons (eV 1) (aCons (eTup (aCons (eC (.ty "tuple")) (aCons (eC (.ty "list")) (aNil)))) (aNil))))) (sSeq (sIf (tOrM (tNotM (tTru (eB fIsi (aCons (eV 0) (aCons (eTup (aCons (eC (.ty "tuple")) (aCons (eC (.ty "list")) (aNil)))) (aNil)))))) (tOf (eBin (lv dNe) (eB fIsi (aCons (eV 0) (aCons (eC (.ty "list")) (aNil)))) (eB fIsi (aCons (eV 1) (aCons (eC (.ty "list")) (aNil))))))) (sRet (eC (.bool false))) (sNil))
  (sSeq (sIf (tOf (eBin (lv dNe) (eB fLen (aCons (eV 0) (aNil))) (eB fLen (aCons (eV 1) (aNil))))) (sRet (eC (.bool false))) (sNil))
  (sRet (eBin (lv dEq) (eComp (iRng1D (aCons (eB fLen (aCons (eV 1) (aNil))) (aNil))) (gV 3) (tNotM (tTru (eCall 2 (M_law_same n) (aCons (eBin fIx (eV 0) (eV 3)) (aCons (eBin fIx (eV 1) (eV 3)) (aNil)))))) (eV 3) [3]) (eLst (aNil)))))) (sNil))
  (sSeq (sSet 2 (eAnd (eBin (lv dEq) (eB fIsi (aCons (eV 0) (aCons (eC (.ty "bool")) (aNil)))) (eB fIsi (aCons (eV 1) (aCons (eC (.ty "bool")) (aNil))))) (eBin (lv dEq) (eB fIsi (aCons (eV 0) (aCons (eC (.ty "int")) (aNil)))) (eB fIsi (aCons (eV 1) (aCons (eC (.ty "int")) (aNil)))))))
  (sRet (eAnd (eV 2) (eBin (lv dEq) (eV 0) (eV 1))))))
theorem ok_law_same {P : Program} {w : World} {K : PySem.W.Frag} {mg : Str → Option Value} {base : Heap} (G : Gx P w K mg base) : ∀ n : Nat, FnE P w K mg base (n + 1) (He.ga K "_law_same") ["_law_found", "_law_due"] (M_law_same n)
  | 0 => by
    obtain ⟨fd, F⟩ := G.f_law_same
    have h : FnE P w K mg base 1 (He.ga K "_law_same") ["_law_found", "_law_due"] (bodyM 2 sStuck) := by
      refine ⟨fd, ?_⟩
      refine fn_okC (N := N_law_same) (st := st_law_same) (k := 0) F ⟨rfl, rfl, rfl, by decide +kernel, rfl, by decide +kernel, by decide +kernel⟩ rfl (fun _ _ _ _ _ _ us hl => match us, hl with | [_, _], _ => rfl) fun cdv A outer s H E hcd hp hr W tk => ?_
      exact sSs_never
    rw [Nat.zero_add]
    exact h
  | n + 1 => by
    have ih := ok_law_same G n
    obtain ⟨fd, F⟩ := G.f_law_same
    have fx := G.fx
    have h : FnE P w K mg base (n + 1 + 1) (He.ga K "_law_same") ["_law_found", "_law_due"] (M_law_same (n + 1)) := by
      refine ⟨fd, ?_⟩
      refine fn_okC (N := N_law_same) (st := st_law_same) (k := n + 1) F ⟨rfl, rfl, rfl, by decide +kernel, rfl, by decide +kernel, by decide +kernel⟩ rfl (fun _ _ _ _ _ _ us hl => match us, hl with | [_, _], _ => rfl) fun cdv A outer s H E hcd hp hr W tk => ?_
      have nd : N_law_same.Nodup := by decide +kernel
      have hu1 := ru1 hr
      have hu64 := ru64 hr
      have hu65 := ru65 hr
      exact (sSs_cons (sS_if (sT_val (sE_b c_isi rfl fx.n_isinstance bb_isinstance (sA_cons (sE_var 1) (sA_cons (sE_tup (sA_cons (sE_ty rfl fx.n_tuple bb_tuple) (sA_cons (sE_ty rfl fx.n_list bb_list) sA_nil))) sA_nil)))) (sSs_cons (sS_if (sT_bop (sW_or (sT_not (sT_val (sE_b c_isi rfl fx.n_isinstance bb_isinstance (sA_cons (sE_var 0) (sA_cons (sE_tup (sA_cons (sE_ty rfl fx.n_tuple bb_tuple) (sA_cons (sE_ty rfl fx.n_list bb_list) sA_nil))) sA_nil))))) (sW_or1 (sT_cmp (o_ne hu64) (sE_b c_isi rfl fx.n_isinstance bb_isinstance (sA_cons (sE_var 0) (sA_cons (sE_ty rfl fx.n_list bb_list) sA_nil))) (sE_b c_isi rfl fx.n_isinstance bb_isinstance (sA_cons (sE_var 1) (sA_cons (sE_ty rfl fx.n_list bb_list) sA_nil))) (by with_unfolding_all rfl))))) (sSs_one (sS_ret sE_bool)) sSs_nil)
    (sSs_cons (sS_if (sT_cmp (o_ne hu64) (sE_b c_len rfl fx.n_len bb_len (sA_cons (sE_var 0) sA_nil)) (sE_b c_len rfl fx.n_len bb_len (sA_cons (sE_var 1) sA_nil)) (by with_unfolding_all rfl)) (sSs_one (sS_ret sE_bool)) sSs_nil)
    (sSs_one (sS_ret (sE_cmp (o_eq hu64) (sE_comp (own := [("_law_k", 3)]) rfl nd (pI_rng1 rfl fx.n_range (sA_cons (sE_b c_len rfl fx.n_len bb_len (sA_cons (sE_var 1) sA_nil)) sA_nil)) (blkOk_by (by kernel_rfl)) (fun _ _ _ _ _ => (sC_name (i := 3) nd rfl (by first | exact .inl rfl | exact .inr rfl) (by decide))) (fun _ _ _ _ _ => (sIf_one (sT_not (sT_val (qE_call (ps := ["_law_found", "_law_due"]) (m := (M_law_same n)) ih hr fx.d__law_same LamX.takes0 (sA_cons (sE_ix hu1 (sE_var 0) (sE_var 3)) (sA_cons (sE_ix hu1 (sE_var 1) (sE_var 3)) sA_nil))))))) (fun _ _ _ _ _ => (sE_var 3))) (sE_lst sA_nil) (by with_unfolding_all rfl)))))) sSs_nil)
    (sSs_cons (sS_set (i := 2) nd rfl (by first | exact .inl rfl | exact .inr rfl) (sE_and (sE_cmp (o_eq hu64) (sE_b c_isi rfl fx.n_isinstance bb_isinstance (sA_cons (sE_var 0) (sA_cons (sE_ty rfl fx.n_bool bb_bool) sA_nil))) (sE_b c_isi rfl fx.n_isinstance bb_isinstance (sA_cons (sE_var 1) (sA_cons (sE_ty rfl fx.n_bool bb_bool) sA_nil))) (by with_unfolding_all rfl)) (sE_one (sE_cmp (o_eq hu64) (sE_b c_isi rfl fx.n_isinstance bb_isinstance (sA_cons (sE_var 0) (sA_cons (sE_ty rfl fx.n_int bb_int) sA_nil))) (sE_b c_isi rfl fx.n_isinstance bb_isinstance (sA_cons (sE_var 1) (sA_cons (sE_ty rfl fx.n_int bb_int) sA_nil))) (by with_unfolding_all rfl)))))
    (sSs_one (sS_ret (sE_and (sE_var 2) (sE_one (sE_cmp (o_eq hu64) (sE_var 0) (sE_var 1) (by with_unfolding_all rfl))))))))
    rw [show n + 1 + 1 = n + 1 + 1 by omega]
    exact h
/-! #### _law_chain -/
abbrev st_law_chain : Stmt := (top 74)
abbrev N_law_chain : List Str := ["_law_state", "_law_net_here", "_law_rides_here", "_law_gap", "_law_chain_here", "_law_k", "_law_ready", "_law_here", "_law_some", "_law_ride"]
def b_law_chain : MS := sSeq (sSet 4 (eLst (aCons (eBin fIx (eV 2) (eCall 2 M_law_drawn (aCons (eV 0) (aCons (eB fLen (aCons (eV 2) (aNil))) (aNil))))) (aNil))))
  (sSeq (sFor (iRng1D (aCons (eCall 2 M_law_drawn (aCons (eV 0) (aCons (eC (.int 9)) (aNil)))) (aNil))) (gV 5) (sSeq (sAsg (eTup (aCons (eBin (lv0 dAdd) (eBin fIx (eCall 2 M_law_times (aCons (eV 1) (aCons (eBin fIx (eV 4) (eBin (lv dSub) (eC (.int 0)) (eC (.int 1)))) (aNil)))) (eC (.int 1))) (eV 3)) (aCons (eBin fIx (eCall 2 M_law_leg (aCons (eV 1) (aCons (eBin fIx (eV 4) (eBin (lv dSub) (eC (.int 0)) (eC (.int 1)))) (aNil)))) (eC (.int 2))) (aNil)))) (gTupD 2 (gsCons (gV 6) (gsCons (gV 7) (gsNil)))))
  (sSeq (sSet 8 (eComp (iAny (eV 2)) (gV 9) (tAndM (tOf (eBin (lv dEq) (eBin fIx (eCall 2 M_law_leg (aCons (eV 1) (aCons (eV 9) (aNil)))) (eC (.int 1))) (eV 7))) (tOf (eBin (lv dGe) (eCall 2 M_law_leave (aCons (eV 1) (aCons (eV 9) (aNil)))) (eV 6)))) (eV 9) [9]))
  (sSet 4 (eBin (lv0 dAdd) (eV 4) (eCut (eCut (eV 8) (pSome (eCall 2 M_law_drawn (aCons (eV 0) (aCons (eC (.int 3)) (aNil))))) (pNo)) (pNo) (pSome (eC (.int 1)))))))))
  (sRet (eB fTup (aCons (eV 4) (aNil)))))
def M_law_chain : MF := bodyM 6 b_law_chain
theorem ok_law_chain {P : Program} {w : World} {K : PySem.W.Frag} {mg : Str → Option Value} {base : Heap} (G : Gx P w K mg base) : FnE P w K mg base 3 (He.ga K "_law_chain") ["_law_state", "_law_net_here", "_law_rides_here", "_law_gap"] M_law_chain := by
  obtain ⟨fd, F⟩ := G.f_law_chain
  have fx := G.fx
  refine ⟨fd, ?_⟩
  refine fn_okC (N := N_law_chain) (st := st_law_chain) (k := 2) F ⟨rfl, rfl, rfl, by decide +kernel, rfl, by decide +kernel, by decide +kernel⟩ rfl (fun _ _ _ _ _ _ us hl => match us, hl with | [_, _, _, _], _ => rfl) fun cdv A outer s H E hcd hp hr W tk => ?_
  have nd : N_law_chain.Nodup := by decide +kernel
  have hu1 := ru1 hr
  have hu64 := ru64 hr
  have hu65 := ru65 hr
  exact (sSs_cons (sS_set (i := 4) nd rfl (by first | exact .inl rfl | exact .inr rfl) (sE_lst (sA_cons (sE_ix hu1 (sE_var 2) (qE_call (ps := ["_law_state", "_law_many"]) (m := M_law_drawn) (ok_law_drawn G) (hr.mono (by decide)) fx.d__law_drawn tk (sA_cons (sE_var 0) (sA_cons (sE_b c_len rfl fx.n_len bb_len (sA_cons (sE_var 2) sA_nil)) sA_nil)))) sA_nil)))
    (sSs_cons (sS_for hp rfl (pI_rng1 rfl fx.n_range (sA_cons (qE_call (ps := ["_law_state", "_law_many"]) (m := M_law_drawn) (ok_law_drawn G) (hr.mono (by decide)) fx.d__law_drawn tk (sA_cons (sE_var 0) (sA_cons sE_int sA_nil))) sA_nil)) (sG_name (i := 5) nd rfl (by first | exact .inl rfl | exact .inr rfl)) (sSs_cons (sS_asg (sE_tup (sA_cons (sE_bin o_add (sE_ix hu1 (qE_call (ps := ["_law_net_here", "_law_ride"]) (m := M_law_times) (ok_law_times G) (hr.mono (by decide)) fx.d__law_times tk (sA_cons (sE_var 1) (sA_cons (sE_ix hu1 (sE_var 4) (sE_bin o_sub sE_int sE_int)) sA_nil))) sE_int) (sE_var 3)) (sA_cons (sE_ix hu1 (qE_call (ps := ["_law_net_here", "_law_ride"]) (m := M_law_leg) (ok_law_leg G) (hr.mono (by decide)) fx.d__law_leg tk (sA_cons (sE_var 1) (sA_cons (sE_ix hu1 (sE_var 4) (sE_bin o_sub sE_int sE_int)) sA_nil))) sE_int) sA_nil))) (sG_tup rfl (sGs_cons (sG_name (i := 6) nd rfl (by first | exact .inl rfl | exact .inr rfl)) (sGs_cons (sG_name (i := 7) nd rfl (by first | exact .inl rfl | exact .inr rfl)) sGs_nil))))
    (sSs_cons (sS_setComp (own := [("_law_ride", 9)]) (i := 8) rfl nd rfl rfl rfl (pI_any (sE_var 2)) (blkOk_by (by kernel_rfl)) (fun _ _ _ _ _ => (sC_name (i := 9) nd rfl (by first | exact .inl rfl | exact .inr rfl) (by decide))) (fun _ _ _ _ _ => (sIf_one (sT_bop (sW_and (sT_cmp (o_eq hu64) (sE_ix hu1 (qE_call (ps := ["_law_net_here", "_law_ride"]) (m := M_law_leg) (ok_law_leg G) (hr.mono (by decide)) fx.d__law_leg LamX.takes0 (sA_cons (sE_var 1) (sA_cons (sE_var 9) sA_nil))) sE_int) (sE_var 7) (by with_unfolding_all rfl)) (sW_and1 (sT_cmp o_ge (qE_call (ps := ["_law_net_here", "_law_ride"]) (m := M_law_leave) (ok_law_leave G) (hr.mono (by decide)) fx.d__law_leave LamX.takes0 (sA_cons (sE_var 1) (sA_cons (sE_var 9) sA_nil))) (sE_var 6) (by with_unfolding_all rfl))))))) (fun _ _ _ _ _ => (sE_var 9)))
    (sSs_one (sS_set (i := 4) nd rfl (by first | exact .inl rfl | exact .inr rfl) (sE_bin o_add (sE_var 4) (sE_cut (sE_cut (sE_var 8) (sp_some (qE_call (ps := ["_law_state", "_law_many"]) (m := M_law_drawn) (ok_law_drawn G) (hr.mono (by decide)) fx.d__law_drawn tk (sA_cons (sE_var 0) (sA_cons sE_int sA_nil)))) sp_no) sp_no (sp_some sE_int))))))))
    (sSs_one (sS_ret (sE_bt c_tup rfl fx.n_tuple bb_tuple (sA_cons (sE_var 4) sA_nil))))))
/-! #### _law_cut -/
abbrev st_law_cut : Stmt := (top 73)
abbrev N_law_cut : List Str := ["_law_net_here", "_law_rides_here", "_law_found", "_law_left", "_law_many", "_law_k"]
def b_law_cut : MS := sSeq (sIf (tOf (eBin fIn (eCall 2 M_law_word (aCons (eV 0) (aCons (eV 1) (aNil)))) (eTup (aCons (eC (.str "place")) (aCons (eC (.str "gap")) (aNil)))))) (sRet (eC (.str "BadChain"))) (sNil))
  (sSeq (sAsg (eTup (aCons (eLstM (aNil)) (aCons (eB fList (aCons (eV 1) (aNil))) (aNil)))) (gTupD 2 (gsCons (gV 2) (gsCons (gV 3) (gsNil)))))
  (sSeq (sWhile (tOf (eBin (lv dNe) (eV 3) (eLst (aNil)))) (sSeq (sSet 4 (eB fLen (aCons (eComp (iRng2D (aCons (eC (.int 1)) (aCons (eBin (lv0 dAdd) (eB fLen (aCons (eV 3) (aNil))) (eC (.int 1))) (aNil)))) (gV 5) (tOf (eBin (lv dEq) (eCall 2 M_law_word (aCons (eV 0) (aCons (eB fTup (aCons (eCut (eV 3) (pNo) (pSome (eV 5))) (aNil))) (aNil)))) (eC (.str "")))) (eV 5) [5]) (aNil))))
  (sSeq (sIf (tOf (eBin (lv dEq) (eV 4) (eC (.int 0)))) (sRet (eC (.str "NoDuty"))) (sNil))
  (sSeq (sExpr (eM isLstB bAppend (eV 2) (aCons (eB fTup (aCons (eCut (eV 3) (pNo) (pSome (eV 4))) (aNil))) (aNil))))
  (sSet 3 (eCut (eV 3) (pSome (eV 4)) (pNo)))))) fuelW)
  (sRet (eV 2))))
def M_law_cut : MF := bodyM 4 b_law_cut
theorem ok_law_cut {P : Program} {w : World} {K : PySem.W.Frag} {mg : Str → Option Value} {base : Heap} (G : Gx P w K mg base) : FnE P w K mg base 4 (He.ga K "_law_cut") ["_law_net_here", "_law_rides_here"] M_law_cut := by
  obtain ⟨fd, F⟩ := G.f_law_cut
  have fx := G.fx
  refine ⟨fd, ?_⟩
  refine fn_okC (N := N_law_cut) (st := st_law_cut) (k := 3) F ⟨rfl, rfl, rfl, by decide +kernel, rfl, by decide +kernel, by decide +kernel⟩ rfl (fun _ _ _ _ _ _ us hl => match us, hl with | [_, _], _ => rfl) fun cdv A outer s H E hcd hp hr W tk => ?_
  have nd : N_law_cut.Nodup := by decide +kernel
  have hu1 := ru1 hr
  have hu64 := ru64 hr
  have hu65 := ru65 hr
  exact (sSs_cons (sS_if (sT_cmp (o_in hu65) (qE_call (ps := ["_law_net_here", "_law_rides_here"]) (m := M_law_word) (ok_law_word G) (hr.mono (by decide)) fx.d__law_word tk (sA_cons (sE_var 0) (sA_cons (sE_var 1) sA_nil))) (sE_tup (sA_cons sE_str (sA_cons sE_str sA_nil))) (by with_unfolding_all rfl)) (sSs_one (sS_ret sE_str)) sSs_nil)
    (sSs_cons (sS_asg (sE_tup (sA_cons (sE_lstM sA_nil) (sA_cons (sE_bt c_list rfl fx.n_list bb_list (sA_cons (sE_var 1) sA_nil)) sA_nil))) (sG_tup rfl (sGs_cons (sG_name (i := 2) nd rfl (by first | exact .inl rfl | exact .inr rfl)) (sGs_cons (sG_name (i := 3) nd rfl (by first | exact .inl rfl | exact .inr rfl)) sGs_nil))))
    (sSs_cons (sS_while hp fuelW (sT_cmp (o_ne hu64) (sE_var 3) (sE_lst sA_nil) (by with_unfolding_all rfl)) (sSs_cons (sS_set (i := 4) nd rfl (by first | exact .inl rfl | exact .inr rfl) (sE_b c_len rfl fx.n_len bb_len (sA_cons (sE_comp (own := [("_law_k", 5)]) rfl nd (pI_rng2 rfl fx.n_range (sA_cons sE_int (sA_cons (sE_bin o_add (sE_b c_len rfl fx.n_len bb_len (sA_cons (sE_var 3) sA_nil)) sE_int) sA_nil))) (blkOk_by (by kernel_rfl)) (fun _ _ _ _ _ => (sC_name (i := 5) nd rfl (by first | exact .inl rfl | exact .inr rfl) (by decide))) (fun _ _ _ _ _ => (sIf_one (sT_cmp (o_eq hu64) (qE_call (ps := ["_law_net_here", "_law_rides_here"]) (m := M_law_word) (ok_law_word G) (hr.mono (by decide)) fx.d__law_word LamX.takes0 (sA_cons (sE_var 0) (sA_cons (sE_bt c_tup rfl fx.n_tuple bb_tuple (sA_cons (sE_cut (sE_var 3) sp_no (sp_some (sE_var 5))) sA_nil)) sA_nil))) sE_str (by with_unfolding_all rfl)))) (fun _ _ _ _ _ => (sE_var 5))) sA_nil)))
    (sSs_cons (sS_if (sT_cmp (o_eq hu64) (sE_var 4) sE_int (by with_unfolding_all rfl)) (sSs_one (sS_ret sE_str)) sSs_nil)
    (sSs_cons (sS_expr (sE_m ty_lst PySem.F.plainAttrs_list PySem.F.slot_list_append PySem.F.type_list_append m_append (sE_var 2) (sA_cons (sE_bt c_tup rfl fx.n_tuple bb_tuple (sA_cons (sE_cut (sE_var 3) sp_no (sp_some (sE_var 4))) sA_nil)) sA_nil)))
    (sSs_one (sS_set (i := 3) nd rfl (by first | exact .inl rfl | exact .inr rfl) (sE_cut (sE_var 3) (sp_some (sE_var 4)) sp_no)))))))
    (sSs_one (sS_ret (sE_var 2))))))
/-! #### _law_kind -/
abbrev st_law_kind : Stmt := (top 64)
abbrev N_law_kind : List Str := ["_law_work", "_law_e", "_law_kinds", "_law_words", "_law_word_here"]
def b_kind (ea : Addr) (kt : D → Option Bool) : MS := sSeq (sSet 2 (eLst (aCons (eB (fIsE ea kt) (aCons (eV 1) (aCons (eC (.glo "BadNet")) (aNil)))) (aCons (eB (fIsE ea kt) (aCons (eV 1) (aCons (eC (.glo "BadFleet")) (aNil)))) (aCons (eB (fIsE ea kt) (aCons (eV 1) (aCons (eC (.glo "BadClasses")) (aNil)))) (aCons (eB (fIsE ea kt) (aCons (eV 1) (aCons (eC (.glo "BadDay")) (aNil)))) (aNil)))))))
  (sSeq (sSet 2 (eBin (lv0 dAdd) (eV 2) (eLst (aCons (eB (fIsE ea kt) (aCons (eV 1) (aCons (eC (.glo "BadPlace")) (aNil)))) (aCons (eB (fIsE ea kt) (aCons (eV 1) (aCons (eC (.glo "BadTime")) (aNil)))) (aCons (eB (fIsE ea kt) (aCons (eV 1) (aCons (eC (.glo "BadCount")) (aNil)))) (aNil)))))))
  (sSeq (sSet 2 (eBin (lv0 dAdd) (eV 2) (eLst (aCons (eB (fIsE ea kt) (aCons (eV 1) (aCons (eC (.glo "BadChain")) (aNil)))) (aCons (eB (fIsE ea kt) (aCons (eV 1) (aCons (eC (.glo "NoDuty")) (aNil)))) (aCons (eB (fIsE ea kt) (aCons (eV 1) (aCons (eC (.glo "NoLeg")) (aNil)))) (aCons (eB (fIsE ea kt) (aCons (eV 1) (aCons (eC (.glo "NoPlane")) (aNil)))) (aNil))))))))
  (sSeq (sSet 2 (eBin (lv0 dAdd) (eV 2) (eLst (aCons (eB (fIsE ea kt) (aCons (eV 1) (aCons (eC (.glo "NoKind")) (aNil)))) (aCons (eB (fIsE ea kt) (aCons (eV 1) (aCons (eC (.glo "Taken")) (aNil)))) (aCons (eB (fIsE ea kt) (aCons (eV 1) (aCons (eC (.glo "CannotFly")) (aNil)))) (aCons (eB (fIsE ea kt) (aCons (eV 1) (aCons (eC (.glo "NoWay")) (aNil)))) (aNil))))))))
  (sSeq (sSet 2 (eBin (lv0 dAdd) (eV 2) (eLst (aCons (eB (fIsE ea kt) (aCons (eV 1) (aCons (eC (.glo "NoSeat")) (aNil)))) (aCons (eB (fIsE ea kt) (aCons (eV 1) (aCons (eC (.glo "NoClass")) (aNil)))) (aCons (eB (fIsE ea kt) (aCons (eV 1) (aCons (eC (.glo "BadName")) (aNil)))) (aNil)))))))
  (sSeq (sSet 2 (eBin (lv0 dAdd) (eV 2) (eLst (aCons (eB (fIsE ea kt) (aCons (eV 1) (aCons (eC (.glo "NoBooking")) (aNil)))) (aCons (eB (fIsE ea kt) (aCons (eV 1) (aCons (eC (.glo "Left")) (aNil)))) (aCons (eB (fIsE ea kt) (aCons (eV 1) (aCons (eC (.glo "Unmended")) (aNil)))) (aNil)))))))
  (sSeq (sSet 2 (eBin (lv0 dAdd) (eV 2) (eLst (aCons (eB (fIsE ea kt) (aCons (eV 1) (aCons (eC (.glo "BadDeed")) (aNil)))) (aCons (eB (fIsE ea kt) (aCons (eV 1) (aCons (eC (.glo "BadText")) (aNil)))) (aNil))))))
  (sSeq (sSet 3 (eC (.str "BadNet BadFleet BadClasses BadDay BadPlace BadTime BadCount BadChain NoDuty NoLeg NoPlane")))
  (sSeq (sSet 3 (eBin (lv0 dAdd) (eV 3) (eC (.str " NoKind Taken CannotFly NoWay NoSeat NoClass BadName NoBooking Left Unmended"))))
  (sSeq (sSet 3 (eBin (lv0 dAdd) (eV 3) (eC (.str " BadDeed BadText"))))
  (sSeq (sIf (tOrM (tOf (eBin (lv dNe) (eM isLstB bCount (eV 2) (aCons (eC (.bool true)) (aNil))) (eC (.int 1)))) (tNotM (tTru (eB (fIsE ea kt) (aCons (eV 1) (aCons (eC (.ty "ValueError")) (aNil))))))) (sRet (eC (.str "other"))) (sNil))
  (sSeq (sSet 4 (eBin fIx (eM isStrB bSplit (eV 3) (aCons (eC (.str " ")) (aNil))) (eM isLstB bIndex (eV 2) (aCons (eC (.bool true)) (aNil)))))
  (sSeq (sIf (tOf (eBin fIn (eV 4) (eTup (aCons (eC (.str "BadNet")) (aCons (eC (.str "BadFleet")) (aNil)))))) (sRet (eTup (aCons (eV 4) (aCons (eStuck) (aCons (eStuck) (aNil)))))) (sNil))
  (sSeq (sIf (tOf (eBin fIn (eV 4) (eTup (aCons (eC (.str "BadClasses")) (aCons (eC (.str "BadDeed")) (aNil)))))) (sRet (eTup (aCons (eV 4) (aCons (eStuck) (aNil))))) (sNil))
  (sRet (eIf (tOf (eBin (lv dEq) (eV 4) (eC (.str "BadText")))) (eTup (aCons (eV 4) (aCons (eStuck) (aNil)))) (eV 4))))))))))))))))
abbrev hdK : Str → Option D := hdOf kindsHere
theorem hdK_mem {C : Str} {r : D} (h : hdK C = some r) : C ∈ kindsHere ∧ r = .str C := by
  unfold hdK hdOf at h
  split at h
  · rename_i hc
    cases h
    exact ⟨List.contains_iff_mem.mp hc, rfl⟩
  · cases h
theorem sem_kind : ∀ C ∈ kindsHere, ∀ (ea : Addr) (S : Sto), b_kind ea (ktK C) ((List.replicate 5 none).set 1 (some (.adr ea))) S = .ret (.str C) S := by
  intro C hC ea S
  unfold kindsHere at hC
  simp only [List.mem_cons, List.not_mem_nil, or_false] at hC
  rcases hC with rfl | rfl | rfl
  all_goals
    unfold b_kind
    refine seq_next (set_lst (isE_k rfl (by decide +kernel) (isE_k rfl (by decide +kernel) (isE_k rfl (by decide +kernel) (isE_k rfl (by decide +kernel) rfl)))) (by simp)) ?_
    refine seq_next (set_cat rfl (isE_k rfl (by decide +kernel) (isE_k rfl (by decide +kernel) (isE_k rfl (by decide +kernel) rfl))) (by simp) (by simp)) ?_
    refine seq_next (set_cat rfl (isE_k rfl (by decide +kernel) (isE_k rfl (by decide +kernel) (isE_k rfl (by decide +kernel) (isE_k rfl (by decide +kernel) rfl)))) (by simp) (by simp)) ?_
    refine seq_next (set_cat rfl (isE_k rfl (by decide +kernel) (isE_k rfl (by decide +kernel) (isE_k rfl (by decide +kernel) (isE_k rfl (by decide +kernel) rfl)))) (by simp) (by simp)) ?_
    refine seq_next (set_cat rfl (isE_k rfl (by decide +kernel) (isE_k rfl (by decide +kernel) (isE_k rfl (by decide +kernel) rfl))) (by simp) (by simp)) ?_
    refine seq_next (set_cat rfl (isE_k rfl (by decide +kernel) (isE_k rfl (by decide +kernel) (isE_k rfl (by decide +kernel) rfl))) (by simp) (by simp)) ?_
    refine seq_next (set_cat rfl (isE_k rfl (by decide +kernel) (isE_k rfl (by decide +kernel) rfl)) (by simp) (by simp)) ?_
    refine seq_next set_c ?_
    refine seq_next (set_str rfl (by decide +kernel)) ?_
    refine seq_next (set_str rfl (by decide +kernel)) ?_
    refine seq_next (if_no (or_snd (by kernel_rfl) (isE_test rfl rfl))) ?_
    kernel_rfl
theorem ok_kind {P : Program} {w : World} {K : PySem.W.Frag} {mg : Str → Option Value} {base : Heap} (G : Gx P w K mg base) : KindF P w K mg base 13 "_law_kind" (He.ga K "_law_kind") hdK := by
  obtain ⟨fd, F⟩ := G.f_law_kind
  have fx := G.fx
  have nd : N_law_kind.Nodup := by decide +kernel
  have b := F.bindsN (ps := ["_law_work"]) (fun _ _ _ _ _ _ us hl => match us, hl with | [_], _ => rfl)
  have kp := F.kp
  obtain ⟨oc, od, dV, kV, doc, pm, an, cdv, ct, osl, rfl, lk, hcd, hD, _⟩ := F.ex
  refine ⟨⟨defArgs st_law_kind, defBody st_law_kind, defScope st_law_kind, dV, kV, doc, pm, cdv, ct, oc, an, od, osl, N_law_kind, "_law_work", lk, hcd, b, ⟨rfl, rfl, rfl, nd, rfl, by decide +kernel, by decide +kernel⟩, rfl, .inl rfl, by decide, by decide, fun X hP hw hK hmg hb hr q => ?_⟩, kp⟩
  subst hP hw hK hmg hb
  refine kind_gives (e := "_law_e") (i := 1) (ec := "AirError") (CS := He.ga X.K "AirError") (sm := fun C ea => b_kind ea (ktK C)) nd rfl rfl rfl G.kx.air (by decide) (fun _ => rfl) (fun C r hC Da hDa => ?_) (fun s H ea Da oe pn C r m1 m4 hz hf => ?_) (fun C ea S r hC => ?_)
  · have hm := (hdK_mem hC).1
    rw [G.kx.gl C (G.kx.sub C hm)] at hDa
    cases hDa
    exact G.kx.exm C hm
  · have hm := (hdK_mem m4).1
    rw [G.kx.gl C (G.kx.sub C hm)] at m1
    cases m1
    have hC := G.kx.exc C hm
    have hk := hk_of G.kx hm
    have hun := hr.un
    have hu1 : X.A.units + 3 + 1 < cLine := by omega
    have hu64 : X.A.units + 3 + 64 < cLine := by omega
    have hu65 : X.A.units + 3 + 65 < cLine := by omega
    exact (sSs_cons (sS_set (i := 2) nd rfl (by first | exact .inl rfl | exact .inr rfl) (sE_lst (sA_cons (sE_b (c_isE hC hz hf hk) rfl fx.n_isinstance bb_isinstance (sA_cons (sE_var 1) (sA_cons (sE_glo rfl fx.d_BadNet) sA_nil))) (sA_cons (sE_b (c_isE hC hz hf hk) rfl fx.n_isinstance bb_isinstance (sA_cons (sE_var 1) (sA_cons (sE_glo rfl fx.d_BadFleet) sA_nil))) (sA_cons (sE_b (c_isE hC hz hf hk) rfl fx.n_isinstance bb_isinstance (sA_cons (sE_var 1) (sA_cons (sE_glo rfl fx.d_BadClasses) sA_nil))) (sA_cons (sE_b (c_isE hC hz hf hk) rfl fx.n_isinstance bb_isinstance (sA_cons (sE_var 1) (sA_cons (sE_glo rfl fx.d_BadDay) sA_nil))) sA_nil))))))
    (sSs_cons (sS_set (i := 2) nd rfl (by first | exact .inl rfl | exact .inr rfl) (sE_bin o_add (sE_var 2) (sE_lst (sA_cons (sE_b (c_isE hC hz hf hk) rfl fx.n_isinstance bb_isinstance (sA_cons (sE_var 1) (sA_cons (sE_glo rfl fx.d_BadPlace) sA_nil))) (sA_cons (sE_b (c_isE hC hz hf hk) rfl fx.n_isinstance bb_isinstance (sA_cons (sE_var 1) (sA_cons (sE_glo rfl fx.d_BadTime) sA_nil))) (sA_cons (sE_b (c_isE hC hz hf hk) rfl fx.n_isinstance bb_isinstance (sA_cons (sE_var 1) (sA_cons (sE_glo rfl fx.d_BadCount) sA_nil))) sA_nil))))))
    (sSs_cons (sS_set (i := 2) nd rfl (by first | exact .inl rfl | exact .inr rfl) (sE_bin o_add (sE_var 2) (sE_lst (sA_cons (sE_b (c_isE hC hz hf hk) rfl fx.n_isinstance bb_isinstance (sA_cons (sE_var 1) (sA_cons (sE_glo rfl fx.d_BadChain) sA_nil))) (sA_cons (sE_b (c_isE hC hz hf hk) rfl fx.n_isinstance bb_isinstance (sA_cons (sE_var 1) (sA_cons (sE_glo rfl fx.d_NoDuty) sA_nil))) (sA_cons (sE_b (c_isE hC hz hf hk) rfl fx.n_isinstance bb_isinstance (sA_cons (sE_var 1) (sA_cons (sE_glo rfl fx.d_NoLeg) sA_nil))) (sA_cons (sE_b (c_isE hC hz hf hk) rfl fx.n_isinstance bb_isinstance (sA_cons (sE_var 1) (sA_cons (sE_glo rfl fx.d_NoPlane) sA_nil))) sA_nil)))))))
    (sSs_cons (sS_set (i := 2) nd rfl (by first | exact .inl rfl | exact .inr rfl) (sE_bin o_add (sE_var 2) (sE_lst (sA_cons (sE_b (c_isE hC hz hf hk) rfl fx.n_isinstance bb_isinstance (sA_cons (sE_var 1) (sA_cons (sE_glo rfl fx.d_NoKind) sA_nil))) (sA_cons (sE_b (c_isE hC hz hf hk) rfl fx.n_isinstance bb_isinstance (sA_cons (sE_var 1) (sA_cons (sE_glo rfl fx.d_Taken) sA_nil))) (sA_cons (sE_b (c_isE hC hz hf hk) rfl fx.n_isinstance bb_isinstance (sA_cons (sE_var 1) (sA_cons (sE_glo rfl fx.d_CannotFly) sA_nil))) (sA_cons (sE_b (c_isE hC hz hf hk) rfl fx.n_isinstance bb_isinstance (sA_cons (sE_var 1) (sA_cons (sE_glo rfl fx.d_NoWay) sA_nil))) sA_nil)))))))
    (sSs_cons (sS_set (i := 2) nd rfl (by first | exact .inl rfl | exact .inr rfl) (sE_bin o_add (sE_var 2) (sE_lst (sA_cons (sE_b (c_isE hC hz hf hk) rfl fx.n_isinstance bb_isinstance (sA_cons (sE_var 1) (sA_cons (sE_glo rfl fx.d_NoSeat) sA_nil))) (sA_cons (sE_b (c_isE hC hz hf hk) rfl fx.n_isinstance bb_isinstance (sA_cons (sE_var 1) (sA_cons (sE_glo rfl fx.d_NoClass) sA_nil))) (sA_cons (sE_b (c_isE hC hz hf hk) rfl fx.n_isinstance bb_isinstance (sA_cons (sE_var 1) (sA_cons (sE_glo rfl fx.d_BadName) sA_nil))) sA_nil))))))
    (sSs_cons (sS_set (i := 2) nd rfl (by first | exact .inl rfl | exact .inr rfl) (sE_bin o_add (sE_var 2) (sE_lst (sA_cons (sE_b (c_isE hC hz hf hk) rfl fx.n_isinstance bb_isinstance (sA_cons (sE_var 1) (sA_cons (sE_glo rfl fx.d_NoBooking) sA_nil))) (sA_cons (sE_b (c_isE hC hz hf hk) rfl fx.n_isinstance bb_isinstance (sA_cons (sE_var 1) (sA_cons (sE_glo rfl fx.d_Left) sA_nil))) (sA_cons (sE_b (c_isE hC hz hf hk) rfl fx.n_isinstance bb_isinstance (sA_cons (sE_var 1) (sA_cons (sE_glo rfl fx.d_Unmended) sA_nil))) sA_nil))))))
    (sSs_cons (sS_set (i := 2) nd rfl (by first | exact .inl rfl | exact .inr rfl) (sE_bin o_add (sE_var 2) (sE_lst (sA_cons (sE_b (c_isE hC hz hf hk) rfl fx.n_isinstance bb_isinstance (sA_cons (sE_var 1) (sA_cons (sE_glo rfl fx.d_BadDeed) sA_nil))) (sA_cons (sE_b (c_isE hC hz hf hk) rfl fx.n_isinstance bb_isinstance (sA_cons (sE_var 1) (sA_cons (sE_glo rfl fx.d_BadText) sA_nil))) sA_nil)))))
    (sSs_cons (sS_set (i := 3) nd rfl (by first | exact .inl rfl | exact .inr rfl) sE_str)
    (sSs_cons (sS_set (i := 3) nd rfl (by first | exact .inl rfl | exact .inr rfl) (sE_bin o_add (sE_var 3) sE_str))
    (sSs_cons (sS_set (i := 3) nd rfl (by first | exact .inl rfl | exact .inr rfl) (sE_bin o_add (sE_var 3) sE_str))
    (sSs_cons (sS_if (sT_bop (sW_or (sT_cmp (o_ne hu64) (sE_m ty_lst PySem.F.plainAttrs_list PySem.F.slot_list_count PySem.F.type_list_count m_count (sE_var 2) (sA_cons sE_bool sA_nil)) sE_int (by with_unfolding_all rfl)) (sW_or1 (sT_not (sT_val (sE_b (c_isE hC hz hf hk) rfl fx.n_isinstance bb_isinstance (sA_cons (sE_var 1) (sA_cons (sE_ty rfl fx.n_ValueError bb_ValueError) sA_nil)))))))) (sSs_one (sS_ret sE_str)) sSs_nil)
    (sSs_cons (sS_set (i := 4) nd rfl (by first | exact .inl rfl | exact .inr rfl) (sE_ix hu1 (sE_m ty_str PySem.F.plainAttrs_str PySem.F.slot_str_split PySem.F.type_str_split m_split (sE_var 3) (sA_cons sE_str sA_nil)) (sE_m ty_lst PySem.F.plainAttrs_list PySem.F.slot_list_index PySem.F.type_list_index m_index (sE_var 2) (sA_cons sE_bool sA_nil))))
    (sSs_cons (sS_if (sT_cmp (o_in hu65) (sE_var 4) (sE_tup (sA_cons sE_str (sA_cons sE_str sA_nil))) (by with_unfolding_all rfl)) (sSs_one (sS_ret (sE_tup (sA_cons (sE_var 4) (sA_cons sE_never (sA_cons sE_never sA_nil)))))) sSs_nil)
    (sSs_cons (sS_if (sT_cmp (o_in hu65) (sE_var 4) (sE_tup (sA_cons sE_str (sA_cons sE_str sA_nil))) (by with_unfolding_all rfl)) (sSs_one (sS_ret (sE_tup (sA_cons (sE_var 4) (sA_cons sE_never sA_nil))))) sSs_nil)
    (sSs_one (sS_ret (sE_if (sT_cmp (o_eq hu64) (sE_var 4) sE_str (by with_unfolding_all rfl)) (sE_tup (sA_cons (sE_var 4) (sA_cons sE_never sA_nil))) (sE_var 4))))))))))))))))))
  · obtain ⟨hm, rfl⟩ := hdK_mem hC
    exact sem_kind C hm ea S
/-! #### _law_rides -/
abbrev st_law_rides : Stmt := (top 69)
abbrev N_law_rides : List Str := ["_law_net_here", "_law_first", "_law_last", "_law_found", "_law_day", "_law_leg_here", "_law_leave_here", "_law_number"]
def b_law_rides : MS := sSeq (sSet 3 (eLstM (aNil)))
  (sSeq (sFor (iRng2D (aCons (eV 1) (aCons (eBin (lv0 dAdd) (eB fMin2 (aCons (eC (.int 60)) (aCons (eV 2) (aNil)))) (eC (.int 1))) (aNil)))) (gV 4) (sFor (iAny (eBin fIx (eV 0) (eC (.int 1)))) (gV 5) (sIf (tOf (eBin fIn (eBin (lv dMod) (eV 4) (eC (.int 7))) (eBin fIx (eV 5) (eC (.int 5))))) (sExpr (eM isLstB bAppend (eV 3) (aCons (eTup (aCons (eBin (lv0 dAdd) (eBin (lv dMulI) (eC (.int 1440)) (eV 4)) (eBin fIx (eV 5) (eC (.int 3)))) (aCons (eBin fIx (eV 5) (eC (.int 0))) (aCons (eV 4) (aNil))))) (aNil)))) (sNil))))
  (sRet (eComp (iAny (eB fSorted (aCons (eV 3) (aNil)))) (gTupD 3 (gsCons (gV 6) (gsCons (gV 7) (gsCons (gV 4) (gsNil))))) (tYesM) (eTup (aCons (eV 4) (aCons (eV 7) (aNil)))) [6, 7, 4])))
def M_law_rides : MF := bodyM 5 b_law_rides
theorem ok_law_rides {P : Program} {w : World} {K : PySem.W.Frag} {mg : Str → Option Value} {base : Heap} (G : Gx P w K mg base) : FnE P w K mg base 1 (He.ga K "_law_rides") ["_law_net_here", "_law_first", "_law_last"] M_law_rides := by
  obtain ⟨fd, F⟩ := G.f_law_rides
  have fx := G.fx
  refine ⟨fd, ?_⟩
  refine fn_okC (N := N_law_rides) (st := st_law_rides) (k := 0) F ⟨rfl, rfl, rfl, by decide +kernel, rfl, by decide +kernel, by decide +kernel⟩ rfl (fun _ _ _ _ _ _ us hl => match us, hl with | [_, _, _], _ => rfl) fun cdv A outer s H E hcd hp hr W tk => ?_
  have nd : N_law_rides.Nodup := by decide +kernel
  have hu1 := ru1 hr
  have hu64 := ru64 hr
  have hu65 := ru65 hr
  exact (sSs_cons (sS_set (i := 3) nd rfl (by first | exact .inl rfl | exact .inr rfl) (sE_lstM sA_nil))
    (sSs_cons (sS_for hp rfl (pI_rng2 rfl fx.n_range (sA_cons (sE_var 1) (sA_cons (sE_bin o_add (sE_b (c_min2 rfl) rfl fx.n_min bb_min (sA_cons sE_int (sA_cons (sE_var 2) sA_nil))) sE_int) sA_nil))) (sG_name (i := 4) nd rfl (by first | exact .inl rfl | exact .inr rfl)) (sSs_one (sS_for hp rfl (pI_any (sE_ix hu1 (sE_var 0) sE_int)) (sG_name (i := 5) nd rfl (by first | exact .inl rfl | exact .inr rfl)) (sSs_one (sS_if (sT_cmp (o_in hu65) (sE_bin o_mod (sE_var 4) sE_int) (sE_ix hu1 (sE_var 5) sE_int) (by with_unfolding_all rfl)) (sSs_one (sS_expr (sE_m ty_lst PySem.F.plainAttrs_list PySem.F.slot_list_append PySem.F.type_list_append m_append (sE_var 3) (sA_cons (sE_tup (sA_cons (sE_bin o_add (sE_bin o_mulI sE_int (sE_var 4)) (sE_ix hu1 (sE_var 5) sE_int)) (sA_cons (sE_ix hu1 (sE_var 5) sE_int) (sA_cons (sE_var 4) sA_nil)))) sA_nil)))) sSs_nil)))))
    (sSs_one (sS_ret (sE_comp (own := [("_law_leave_here", 6), ("_law_number", 7), ("_law_day", 4)]) rfl nd (pI_any (sE_b (c_sorted hu65) rfl fx.n_sorted bb_sorted (sA_cons (sE_var 3) sA_nil))) (blkOk_by (by kernel_rfl)) (fun _ _ _ _ _ => (sC_tup rfl (sCs_cons (sC_name (i := 6) nd rfl (by first | exact .inl rfl | exact .inr rfl) (by decide)) (sCs_cons (sC_name (i := 7) nd rfl (by first | exact .inl rfl | exact .inr rfl) (by decide)) (sCs_cons (sC_name (i := 4) nd rfl (by first | exact .inl rfl | exact .inr rfl) (by decide)) sCs_nil))))) (fun _ _ _ _ _ => sIf_nil) (fun _ _ _ _ _ => (sE_tup (sA_cons (sE_var 4) (sA_cons (sE_var 7) sA_nil)))))))))
/-! #### _law_shuttle -/
abbrev st_law_shuttle : Stmt := (top 65)
abbrev N_law_shuttle : List Str := ["_law_state", "_law_names", "_law_legs", "_law_long", "_law_gap", "_law_days", "_law_k", "_law_one", "_law_other", "_law_name"]
def b_law_shuttle : MS := sSeq (sPar 1 2 (aCons (eCut (eLst (aCons (eC (.str "aba")) (aCons (eC (.str "bcd")) (aCons (eC (.str "cad")) (aNil))))) (pNo) (pSome (eBin (lv0 dAdd) (eC (.int 2)) (eCall 2 M_law_drawn (aCons (eV 0) (aCons (eC (.int 2)) (aNil))))))) (aCons (eLstM (aNil)) (aNil))))
  (sSeq (sPar 3 4 (aCons (eBin (lv0 dAdd) (eC (.int 20)) (eBin (lv dMulI) (eC (.int 10)) (eCall 2 M_law_drawn (aCons (eV 0) (aCons (eC (.int 5)) (aNil)))))) (aCons (eBin (lv0 dAdd) (eC (.int 60)) (eBin (lv dMulI) (eC (.int 10)) (eCall 2 M_law_drawn (aCons (eV 0) (aCons (eC (.int 10)) (aNil)))))) (aNil))))
  (sSeq (sSet 5 (eBin fIx (eLst (aCons (eTup (aCons (eC (.int 0)) (aCons (eC (.int 1)) (aCons (eC (.int 2)) (aCons (eC (.int 3)) (aCons (eC (.int 4)) (aCons (eC (.int 5)) (aCons (eC (.int 6)) (aNil))))))))) (aCons (eTup (aCons (eC (.int 1)) (aCons (eC (.int 2)) (aCons (eC (.int 5)) (aNil))))) (aCons (eTup (aCons (eCall 2 M_law_drawn (aCons (eV 0) (aCons (eC (.int 7)) (aNil)))) (aNil))) (aNil))))) (eCall 2 M_law_drawn (aCons (eV 0) (aCons (eC (.int 3)) (aNil))))))
  (sSeq (sFor (iRng1D (aCons (eBin (lv0 dAdd) (eC (.int 3)) (eCall 2 M_law_drawn (aCons (eV 0) (aCons (eC (.int 5)) (aNil))))) (aNil))) (gV 6) (sSeq (sPar 7 8 (aCons (eBin fIx (eV 1) (eBin (lv dMod) (eV 6) (eB fLen (aCons (eV 1) (aNil))))) (aCons (eBin fIx (eV 1) (eBin (lv dMod) (eBin (lv0 dAdd) (eV 6) (eC (.int 1))) (eB fLen (aCons (eV 1) (aNil))))) (aNil))))
  (sSeq (sExpr (eM isLstB bAppend (eV 2) (aCons (eTup (aCons (eBin (lv0 dAdd) (eC (.int 10)) (eBin (lv dMulI) (eC (.int 3)) (eV 6))) (aCons (eV 7) (aCons (eV 8) (aCons (eBin (lv0 dAdd) (eC (.int 300)) (eBin (lv dMulI) (eV 4) (eV 6))) (aCons (eV 3) (aCons (eV 5) (aCons (eBin (lv0 dAdd) (eC (.int 100)) (eV 6)) (aNil))))))))) (aNil))))
  (sIf (tOf (eBin (lv dGt) (eCall 2 M_law_drawn (aCons (eV 0) (aCons (eC (.int 3)) (aNil)))) (eC (.int 0)))) (sExpr (eM isLstB bAppend (eV 2) (aCons (eTup (aCons (eBin (lv0 dAdd) (eC (.int 11)) (eBin (lv dMulI) (eC (.int 3)) (eV 6))) (aCons (eV 8) (aCons (eV 7) (aCons (eBin (lv0 dAdd) (eC (.int 300)) (eBin (lv dMulI) (eV 4) (eV 6))) (aCons (eBin (lv0 dAdd) (eV 3) (eBin (lv dMulI) (eC (.int 10)) (eCall 2 M_law_drawn (aCons (eV 0) (aCons (eC (.int 2)) (aNil)))))) (aCons (eV 5) (aCons (eC (.int 77)) (aNil))))))))) (aNil)))) (sNil)))))
  (sRet (eTup (aCons (eB fTup (aCons (eComp (iAny (eV 1)) (gV 9) (tYesM) (eTup (aCons (eV 9) (aCons (eBin (lv0 dAdd) (eC (.int 10)) (eBin (lv dMulI) (eC (.int 20)) (eCall 2 M_law_drawn (aCons (eV 0) (aCons (eC (.int 3)) (aNil)))))) (aNil)))) [9]) (aNil))) (aCons (eB fTup (aCons (eV 2) (aNil))) (aNil))))))))
def M_law_shuttle : MF := bodyM 9 b_law_shuttle
theorem ok_law_shuttle {P : Program} {w : World} {K : PySem.W.Frag} {mg : Str → Option Value} {base : Heap} (G : Gx P w K mg base) : FnE P w K mg base 2 (He.ga K "_law_shuttle") ["_law_state"] M_law_shuttle := by
  obtain ⟨fd, F⟩ := G.f_law_shuttle
  have fx := G.fx
  refine ⟨fd, ?_⟩
  refine fn_okC (N := N_law_shuttle) (st := st_law_shuttle) (k := 1) F ⟨rfl, rfl, rfl, by decide +kernel, rfl, by decide +kernel, by decide +kernel⟩ rfl (fun _ _ _ _ _ _ us hl => match us, hl with | [_], _ => rfl) fun cdv A outer s H E hcd hp hr W tk => ?_
  have nd : N_law_shuttle.Nodup := by decide +kernel
  have hu1 := ru1 hr
  have hu64 := ru64 hr
  have hu65 := ru65 hr
  exact (sSs_cons (sS_par (i := 1) (j := 2) rfl nd rfl rfl (by decide) rfl rfl (sA_cons (sE_cut (sE_lst (sA_cons sE_str (sA_cons sE_str (sA_cons sE_str sA_nil)))) sp_no (sp_some (sE_bin o_add sE_int (qE_call (ps := ["_law_state", "_law_many"]) (m := M_law_drawn) (ok_law_drawn G) (hr.mono (by decide)) fx.d__law_drawn tk (sA_cons (sE_var 0) (sA_cons sE_int sA_nil)))))) (sA_cons (sE_lstM sA_nil) sA_nil)))
    (sSs_cons (sS_par (i := 3) (j := 4) rfl nd rfl rfl (by decide) rfl rfl (sA_cons (sE_bin o_add sE_int (sE_bin o_mulI sE_int (qE_call (ps := ["_law_state", "_law_many"]) (m := M_law_drawn) (ok_law_drawn G) (hr.mono (by decide)) fx.d__law_drawn tk (sA_cons (sE_var 0) (sA_cons sE_int sA_nil))))) (sA_cons (sE_bin o_add sE_int (sE_bin o_mulI sE_int (qE_call (ps := ["_law_state", "_law_many"]) (m := M_law_drawn) (ok_law_drawn G) (hr.mono (by decide)) fx.d__law_drawn tk (sA_cons (sE_var 0) (sA_cons sE_int sA_nil))))) sA_nil)))
    (sSs_cons (sS_set (i := 5) nd rfl (by first | exact .inl rfl | exact .inr rfl) (sE_ix hu1 (sE_lst (sA_cons (sE_tup (sA_cons sE_int (sA_cons sE_int (sA_cons sE_int (sA_cons sE_int (sA_cons sE_int (sA_cons sE_int (sA_cons sE_int sA_nil)))))))) (sA_cons (sE_tup (sA_cons sE_int (sA_cons sE_int (sA_cons sE_int sA_nil)))) (sA_cons (sE_tup (sA_cons (qE_call (ps := ["_law_state", "_law_many"]) (m := M_law_drawn) (ok_law_drawn G) (hr.mono (by decide)) fx.d__law_drawn tk (sA_cons (sE_var 0) (sA_cons sE_int sA_nil))) sA_nil)) sA_nil)))) (qE_call (ps := ["_law_state", "_law_many"]) (m := M_law_drawn) (ok_law_drawn G) (hr.mono (by decide)) fx.d__law_drawn tk (sA_cons (sE_var 0) (sA_cons sE_int sA_nil)))))
    (sSs_cons (sS_for hp rfl (pI_rng1 rfl fx.n_range (sA_cons (sE_bin o_add sE_int (qE_call (ps := ["_law_state", "_law_many"]) (m := M_law_drawn) (ok_law_drawn G) (hr.mono (by decide)) fx.d__law_drawn tk (sA_cons (sE_var 0) (sA_cons sE_int sA_nil)))) sA_nil)) (sG_name (i := 6) nd rfl (by first | exact .inl rfl | exact .inr rfl)) (sSs_cons (sS_par (i := 7) (j := 8) rfl nd rfl rfl (by decide) rfl rfl (sA_cons (sE_ix hu1 (sE_var 1) (sE_bin o_mod (sE_var 6) (sE_b c_len rfl fx.n_len bb_len (sA_cons (sE_var 1) sA_nil)))) (sA_cons (sE_ix hu1 (sE_var 1) (sE_bin o_mod (sE_bin o_add (sE_var 6) sE_int) (sE_b c_len rfl fx.n_len bb_len (sA_cons (sE_var 1) sA_nil)))) sA_nil)))
    (sSs_cons (sS_expr (sE_m ty_lst PySem.F.plainAttrs_list PySem.F.slot_list_append PySem.F.type_list_append m_append (sE_var 2) (sA_cons (sE_tup (sA_cons (sE_bin o_add sE_int (sE_bin o_mulI sE_int (sE_var 6))) (sA_cons (sE_var 7) (sA_cons (sE_var 8) (sA_cons (sE_bin o_add sE_int (sE_bin o_mulI (sE_var 4) (sE_var 6))) (sA_cons (sE_var 3) (sA_cons (sE_var 5) (sA_cons (sE_bin o_add sE_int (sE_var 6)) sA_nil)))))))) sA_nil)))
    (sSs_one (sS_if (sT_cmp o_gt (qE_call (ps := ["_law_state", "_law_many"]) (m := M_law_drawn) (ok_law_drawn G) (hr.mono (by decide)) fx.d__law_drawn tk (sA_cons (sE_var 0) (sA_cons sE_int sA_nil))) sE_int (by with_unfolding_all rfl)) (sSs_one (sS_expr (sE_m ty_lst PySem.F.plainAttrs_list PySem.F.slot_list_append PySem.F.type_list_append m_append (sE_var 2) (sA_cons (sE_tup (sA_cons (sE_bin o_add sE_int (sE_bin o_mulI sE_int (sE_var 6))) (sA_cons (sE_var 8) (sA_cons (sE_var 7) (sA_cons (sE_bin o_add sE_int (sE_bin o_mulI (sE_var 4) (sE_var 6))) (sA_cons (sE_bin o_add (sE_var 3) (sE_bin o_mulI sE_int (qE_call (ps := ["_law_state", "_law_many"]) (m := M_law_drawn) (ok_law_drawn G) (hr.mono (by decide)) fx.d__law_drawn tk (sA_cons (sE_var 0) (sA_cons sE_int sA_nil))))) (sA_cons (sE_var 5) (sA_cons sE_int sA_nil)))))))) sA_nil)))) sSs_nil)))))
    (sSs_one (sS_ret (sE_tup (sA_cons (sE_bt c_tup rfl fx.n_tuple bb_tuple (sA_cons (sE_comp (own := [("_law_name", 9)]) rfl nd (pI_any (sE_var 1)) (blkOk_by (by kernel_rfl)) (fun _ _ _ _ _ => (sC_name (i := 9) nd rfl (by first | exact .inl rfl | exact .inr rfl) (by decide))) (fun _ _ _ _ _ => sIf_nil) (fun _ _ _ _ _ => (sE_tup (sA_cons (sE_var 9) (sA_cons (sE_bin o_add sE_int (sE_bin o_mulI sE_int (qE_call (ps := ["_law_state", "_law_many"]) (m := M_law_drawn) (ok_law_drawn G) (hr.mono (by decide)) fx.d__law_drawn LamX.takes0 (sA_cons (sE_var 0) (sA_cons sE_int sA_nil))))) sA_nil))))) sA_nil)) (sA_cons (sE_bt c_tup rfl fx.n_tuple bb_tuple (sA_cons (sE_var 2) sA_nil)) sA_nil)))))))))
/-! #### _law_net -/
abbrev st_law_net : Stmt := (top 66)
abbrev N_law_net : List Str := ["_law_state", "_law_names", "_law_places", "_law_legs", "_law_k", "_law_start_here", "_law_goal", "_law_out", "_law_long", "_law_days", "_law_fare", "_law_name", "_law_day"]
def b_law_net : MS := sSeq (sIf (tOf (eBin (lv dEq) (eCall 2 M_law_drawn (aCons (eV 0) (aCons (eC (.int 4)) (aNil)))) (eC (.int 0)))) (sRet (eCall 1 M_law_shuttle (aCons (eV 0) (aNil)))) (sNil))
  (sSeq (sSet 1 (eCut (eLst (aCons (eC (.str "aba")) (aCons (eC (.str "bcd")) (aCons (eC (.str "cad")) (aCons (eC (.str "dub")) (aCons (eC (.str "eli")) (aCons (eC (.str "fra")) (aNil)))))))) (pNo) (pSome (eBin (lv0 dAdd) (eC (.int 2)) (eCall 2 M_law_drawn (aCons (eV 0) (aCons (eC (.int 4)) (aNil))))))))
  (sSeq (sSet 2 (eB fTup (aCons (eComp (iAny (eV 1)) (gV 11) (tYesM) (eTup (aCons (eV 11) (aCons (eBin fIx (eLst (aCons (eC (.int 30)) (aCons (eC (.int 10)) (aCons (eC (.int 60)) (aCons (eBin (lv0 dAdd) (eC (.int 10)) (eCall 2 M_law_drawn (aCons (eV 0) (aCons (eC (.int 291)) (aNil))))) (aNil)))))) (eCall 2 M_law_drawn (aCons (eV 0) (aCons (eC (.int 4)) (aNil))))) (aNil)))) [11]) (aNil))))
  (sSeq (sSet 3 (eLstM (aNil)))
  (sSeq (sFor (iRng1D (aCons (eBin (lv0 dAdd) (eC (.int 2)) (eCall 2 M_law_drawn (aCons (eV 0) (aCons (eBin fIx (eLst (aCons (eC (.int 6)) (aCons (eC (.int 13)) (aNil)))) (eCall 2 M_law_drawn (aCons (eV 0) (aCons (eC (.int 2)) (aNil))))) (aNil))))) (aNil))) (gV 4) (sSeq (sSet 5 (eCall 2 M_law_drawn (aCons (eV 0) (aCons (eB fLen (aCons (eV 1) (aNil))) (aNil)))))
  (sSeq (sSet 6 (eBin (lv dMod) (eBin (lv0 dAdd) (eBin (lv0 dAdd) (eV 5) (eC (.int 1))) (eCall 2 M_law_drawn (aCons (eV 0) (aCons (eBin (lv dSub) (eB fLen (aCons (eV 1) (aNil))) (eC (.int 1))) (aNil))))) (eB fLen (aCons (eV 1) (aNil)))))
  (sSeq (sSet 7 (eLst (aCons (eBin (lv dMulI) (eC (.int 60)) (eCall 2 M_law_drawn (aCons (eV 0) (aCons (eC (.int 24)) (aNil))))) (aCons (eBin (lv0 dAdd) (eC (.int 300)) (eBin (lv dMulI) (eC (.int 10)) (eCall 2 M_law_drawn (aCons (eV 0) (aCons (eC (.int 60)) (aNil)))))) (aCons (eCall 2 M_law_drawn (aCons (eV 0) (aCons (eC (.int 1440)) (aNil)))) (aNil))))))
  (sSeq (sSet 7 (eBin fIx (eV 7) (eCall 2 M_law_drawn (aCons (eV 0) (aCons (eC (.int 3)) (aNil))))))
  (sSeq (sSet 8 (eBin fIx (eLst (aCons (eC (.int 60)) (aCons (eBin (lv0 dAdd) (eC (.int 20)) (eBin (lv dMulI) (eC (.int 10)) (eCall 2 M_law_drawn (aCons (eV 0) (aCons (eC (.int 30)) (aNil)))))) (aCons (eBin (lv0 dAdd) (eC (.int 20)) (eCall 2 M_law_drawn (aCons (eV 0) (aCons (eC (.int 881)) (aNil))))) (aNil))))) (eBin (lv dDiv) (eCall 2 M_law_drawn (aCons (eV 0) (aCons (eC (.int 9)) (aNil)))) (eC (.int 4)))))
  (sSeq (sSet 9 (eB fTup (aCons (eComp (iRng1D (aCons (eC (.int 7)) (aNil))) (gV 12) (tOf (eBin (lv dGt) (eCall 2 M_law_drawn (aCons (eV 0) (aCons (eC (.int 3)) (aNil)))) (eC (.int 0)))) (eV 12) [12]) (aNil))))
  (sSeq (sSet 9 (eIf (tOf (eBin (lv dNe) (eV 9) (eTup (aNil)))) (eV 9) (eTup (aCons (eCall 2 M_law_drawn (aCons (eV 0) (aCons (eC (.int 7)) (aNil)))) (aNil)))))
  (sSeq (sSet 10 (eBin fIx (eLst (aCons (eC (.int 100)) (aCons (eBin (lv0 dAdd) (eC (.int 1)) (eCall 2 M_law_drawn (aCons (eV 0) (aCons (eC (.int 1000)) (aNil))))) (aCons (eBin (lv0 dAdd) (eC (.int 1)) (eCall 2 M_law_drawn (aCons (eV 0) (aCons (eC (.int 100000)) (aNil))))) (aNil))))) (eCall 2 M_law_drawn (aCons (eV 0) (aCons (eC (.int 3)) (aNil))))))
  (sSeq (sExpr (eM isLstB bAppend (eV 3) (aCons (eTup (aCons (eBin (lv0 dAdd) (eC (.int 100)) (eBin (lv dMulI) (eC (.int 7)) (eV 4))) (aCons (eBin fIx (eV 1) (eV 5)) (aCons (eBin fIx (eV 1) (eV 6)) (aCons (eV 7) (aCons (eV 8) (aCons (eV 9) (aCons (eV 10) (aNil))))))))) (aNil))))
  (sIf (tOf (eBin (lv dEq) (eCall 2 M_law_drawn (aCons (eV 0) (aCons (eC (.int 2)) (aNil)))) (eC (.int 0)))) (sExpr (eM isLstB bAppend (eV 3) (aCons (eTup (aCons (eBin (lv0 dAdd) (eC (.int 103)) (eBin (lv dMulI) (eC (.int 7)) (eV 4))) (aCons (eBin fIx (eV 1) (eV 6)) (aCons (eBin fIx (eV 1) (eV 5)) (aCons (eBin (lv dMod) (eBin (lv0 dAdd) (eBin (lv0 dAdd) (eV 7) (eV 8)) (eC (.int 60))) (eC (.int 1440))) (aCons (eV 8) (aCons (eV 9) (aCons (eV 10) (aNil))))))))) (aNil)))) (sNil))))))))))))
  (sRet (eTup (aCons (eV 2) (aCons (eB fTup (aCons (eIf (tOf (eBin (lv dEq) (eCall 2 M_law_drawn (aCons (eV 0) (aCons (eC (.int 2)) (aNil)))) (eC (.int 0)))) (eV 3) (eRev (eV 3))) (aNil))) (aNil)))))))))
def M_law_net : MF := bodyM 12 b_law_net
theorem ok_law_net {P : Program} {w : World} {K : PySem.W.Frag} {mg : Str → Option Value} {base : Heap} (G : Gx P w K mg base) : FnE P w K mg base 3 (He.ga K "_law_net") ["_law_state"] M_law_net := by
  obtain ⟨fd, F⟩ := G.f_law_net
  have fx := G.fx
  refine ⟨fd, ?_⟩
  refine fn_okC (N := N_law_net) (st := st_law_net) (k := 2) F ⟨rfl, rfl, rfl, by decide +kernel, rfl, by decide +kernel, by decide +kernel⟩ rfl (fun _ _ _ _ _ _ us hl => match us, hl with | [_], _ => rfl) fun cdv A outer s H E hcd hp hr W tk => ?_
  have nd : N_law_net.Nodup := by decide +kernel
  have hu1 := ru1 hr
  have hu64 := ru64 hr
  have hu65 := ru65 hr
  exact (sSs_cons (sS_if (sT_cmp (o_eq hu64) (qE_call (ps := ["_law_state", "_law_many"]) (m := M_law_drawn) (ok_law_drawn G) (hr.mono (by decide)) fx.d__law_drawn tk (sA_cons (sE_var 0) (sA_cons sE_int sA_nil))) sE_int (by with_unfolding_all rfl)) (sSs_one (sS_ret (qE_call (ps := ["_law_state"]) (m := M_law_shuttle) (ok_law_shuttle G) (hr.mono (by decide)) fx.d__law_shuttle tk (sA_cons (sE_var 0) sA_nil)))) sSs_nil)
    (sSs_cons (sS_set (i := 1) nd rfl (by first | exact .inl rfl | exact .inr rfl) (sE_cut (sE_lst (sA_cons sE_str (sA_cons sE_str (sA_cons sE_str (sA_cons sE_str (sA_cons sE_str (sA_cons sE_str sA_nil))))))) sp_no (sp_some (sE_bin o_add sE_int (qE_call (ps := ["_law_state", "_law_many"]) (m := M_law_drawn) (ok_law_drawn G) (hr.mono (by decide)) fx.d__law_drawn tk (sA_cons (sE_var 0) (sA_cons sE_int sA_nil)))))))
    (sSs_cons (sS_set (i := 2) nd rfl (by first | exact .inl rfl | exact .inr rfl) (sE_bt c_tup rfl fx.n_tuple bb_tuple (sA_cons (sE_comp (own := [("_law_name", 11)]) rfl nd (pI_any (sE_var 1)) (blkOk_by (by kernel_rfl)) (fun _ _ _ _ _ => (sC_name (i := 11) nd rfl (by first | exact .inl rfl | exact .inr rfl) (by decide))) (fun _ _ _ _ _ => sIf_nil) (fun _ _ _ _ _ => (sE_tup (sA_cons (sE_var 11) (sA_cons (sE_ix hu1 (sE_lst (sA_cons sE_int (sA_cons sE_int (sA_cons sE_int (sA_cons (sE_bin o_add sE_int (qE_call (ps := ["_law_state", "_law_many"]) (m := M_law_drawn) (ok_law_drawn G) (hr.mono (by decide)) fx.d__law_drawn LamX.takes0 (sA_cons (sE_var 0) (sA_cons sE_int sA_nil)))) sA_nil))))) (qE_call (ps := ["_law_state", "_law_many"]) (m := M_law_drawn) (ok_law_drawn G) (hr.mono (by decide)) fx.d__law_drawn LamX.takes0 (sA_cons (sE_var 0) (sA_cons sE_int sA_nil)))) sA_nil))))) sA_nil)))
    (sSs_cons (sS_set (i := 3) nd rfl (by first | exact .inl rfl | exact .inr rfl) (sE_lstM sA_nil))
    (sSs_cons (sS_for hp rfl (pI_rng1 rfl fx.n_range (sA_cons (sE_bin o_add sE_int (qE_call (ps := ["_law_state", "_law_many"]) (m := M_law_drawn) (ok_law_drawn G) (hr.mono (by decide)) fx.d__law_drawn tk (sA_cons (sE_var 0) (sA_cons (sE_ix hu1 (sE_lst (sA_cons sE_int (sA_cons sE_int sA_nil))) (qE_call (ps := ["_law_state", "_law_many"]) (m := M_law_drawn) (ok_law_drawn G) (hr.mono (by decide)) fx.d__law_drawn tk (sA_cons (sE_var 0) (sA_cons sE_int sA_nil)))) sA_nil)))) sA_nil)) (sG_name (i := 4) nd rfl (by first | exact .inl rfl | exact .inr rfl)) (sSs_cons (sS_set (i := 5) nd rfl (by first | exact .inl rfl | exact .inr rfl) (qE_call (ps := ["_law_state", "_law_many"]) (m := M_law_drawn) (ok_law_drawn G) (hr.mono (by decide)) fx.d__law_drawn tk (sA_cons (sE_var 0) (sA_cons (sE_b c_len rfl fx.n_len bb_len (sA_cons (sE_var 1) sA_nil)) sA_nil))))
    (sSs_cons (sS_set (i := 6) nd rfl (by first | exact .inl rfl | exact .inr rfl) (sE_bin o_mod (sE_bin o_add (sE_bin o_add (sE_var 5) sE_int) (qE_call (ps := ["_law_state", "_law_many"]) (m := M_law_drawn) (ok_law_drawn G) (hr.mono (by decide)) fx.d__law_drawn tk (sA_cons (sE_var 0) (sA_cons (sE_bin o_sub (sE_b c_len rfl fx.n_len bb_len (sA_cons (sE_var 1) sA_nil)) sE_int) sA_nil)))) (sE_b c_len rfl fx.n_len bb_len (sA_cons (sE_var 1) sA_nil))))
    (sSs_cons (sS_set (i := 7) nd rfl (by first | exact .inl rfl | exact .inr rfl) (sE_lst (sA_cons (sE_bin o_mulI sE_int (qE_call (ps := ["_law_state", "_law_many"]) (m := M_law_drawn) (ok_law_drawn G) (hr.mono (by decide)) fx.d__law_drawn tk (sA_cons (sE_var 0) (sA_cons sE_int sA_nil)))) (sA_cons (sE_bin o_add sE_int (sE_bin o_mulI sE_int (qE_call (ps := ["_law_state", "_law_many"]) (m := M_law_drawn) (ok_law_drawn G) (hr.mono (by decide)) fx.d__law_drawn tk (sA_cons (sE_var 0) (sA_cons sE_int sA_nil))))) (sA_cons (qE_call (ps := ["_law_state", "_law_many"]) (m := M_law_drawn) (ok_law_drawn G) (hr.mono (by decide)) fx.d__law_drawn tk (sA_cons (sE_var 0) (sA_cons sE_int sA_nil))) sA_nil)))))
    (sSs_cons (sS_set (i := 7) nd rfl (by first | exact .inl rfl | exact .inr rfl) (sE_ix hu1 (sE_var 7) (qE_call (ps := ["_law_state", "_law_many"]) (m := M_law_drawn) (ok_law_drawn G) (hr.mono (by decide)) fx.d__law_drawn tk (sA_cons (sE_var 0) (sA_cons sE_int sA_nil)))))
    (sSs_cons (sS_set (i := 8) nd rfl (by first | exact .inl rfl | exact .inr rfl) (sE_ix hu1 (sE_lst (sA_cons sE_int (sA_cons (sE_bin o_add sE_int (sE_bin o_mulI sE_int (qE_call (ps := ["_law_state", "_law_many"]) (m := M_law_drawn) (ok_law_drawn G) (hr.mono (by decide)) fx.d__law_drawn tk (sA_cons (sE_var 0) (sA_cons sE_int sA_nil))))) (sA_cons (sE_bin o_add sE_int (qE_call (ps := ["_law_state", "_law_many"]) (m := M_law_drawn) (ok_law_drawn G) (hr.mono (by decide)) fx.d__law_drawn tk (sA_cons (sE_var 0) (sA_cons sE_int sA_nil)))) sA_nil)))) (sE_bin o_div (qE_call (ps := ["_law_state", "_law_many"]) (m := M_law_drawn) (ok_law_drawn G) (hr.mono (by decide)) fx.d__law_drawn tk (sA_cons (sE_var 0) (sA_cons sE_int sA_nil))) sE_int)))
    (sSs_cons (sS_set (i := 9) nd rfl (by first | exact .inl rfl | exact .inr rfl) (sE_bt c_tup rfl fx.n_tuple bb_tuple (sA_cons (sE_comp (own := [("_law_day", 12)]) rfl nd (pI_rng1 rfl fx.n_range (sA_cons sE_int sA_nil)) (blkOk_by (by kernel_rfl)) (fun _ _ _ _ _ => (sC_name (i := 12) nd rfl (by first | exact .inl rfl | exact .inr rfl) (by decide))) (fun _ _ _ _ _ => (sIf_one (sT_cmp o_gt (qE_call (ps := ["_law_state", "_law_many"]) (m := M_law_drawn) (ok_law_drawn G) (hr.mono (by decide)) fx.d__law_drawn LamX.takes0 (sA_cons (sE_var 0) (sA_cons sE_int sA_nil))) sE_int (by with_unfolding_all rfl)))) (fun _ _ _ _ _ => (sE_var 12))) sA_nil)))
    (sSs_cons (sS_set (i := 9) nd rfl (by first | exact .inl rfl | exact .inr rfl) (sE_if (sT_cmp (o_ne hu64) (sE_var 9) (sE_tup sA_nil) (by with_unfolding_all rfl)) (sE_var 9) (sE_tup (sA_cons (qE_call (ps := ["_law_state", "_law_many"]) (m := M_law_drawn) (ok_law_drawn G) (hr.mono (by decide)) fx.d__law_drawn tk (sA_cons (sE_var 0) (sA_cons sE_int sA_nil))) sA_nil))))
    (sSs_cons (sS_set (i := 10) nd rfl (by first | exact .inl rfl | exact .inr rfl) (sE_ix hu1 (sE_lst (sA_cons sE_int (sA_cons (sE_bin o_add sE_int (qE_call (ps := ["_law_state", "_law_many"]) (m := M_law_drawn) (ok_law_drawn G) (hr.mono (by decide)) fx.d__law_drawn tk (sA_cons (sE_var 0) (sA_cons sE_int sA_nil)))) (sA_cons (sE_bin o_add sE_int (qE_call (ps := ["_law_state", "_law_many"]) (m := M_law_drawn) (ok_law_drawn G) (hr.mono (by decide)) fx.d__law_drawn tk (sA_cons (sE_var 0) (sA_cons sE_int sA_nil)))) sA_nil)))) (qE_call (ps := ["_law_state", "_law_many"]) (m := M_law_drawn) (ok_law_drawn G) (hr.mono (by decide)) fx.d__law_drawn tk (sA_cons (sE_var 0) (sA_cons sE_int sA_nil)))))
    (sSs_cons (sS_expr (sE_m ty_lst PySem.F.plainAttrs_list PySem.F.slot_list_append PySem.F.type_list_append m_append (sE_var 3) (sA_cons (sE_tup (sA_cons (sE_bin o_add sE_int (sE_bin o_mulI sE_int (sE_var 4))) (sA_cons (sE_ix hu1 (sE_var 1) (sE_var 5)) (sA_cons (sE_ix hu1 (sE_var 1) (sE_var 6)) (sA_cons (sE_var 7) (sA_cons (sE_var 8) (sA_cons (sE_var 9) (sA_cons (sE_var 10) sA_nil)))))))) sA_nil)))
    (sSs_one (sS_if (sT_cmp (o_eq hu64) (qE_call (ps := ["_law_state", "_law_many"]) (m := M_law_drawn) (ok_law_drawn G) (hr.mono (by decide)) fx.d__law_drawn tk (sA_cons (sE_var 0) (sA_cons sE_int sA_nil))) sE_int (by with_unfolding_all rfl)) (sSs_one (sS_expr (sE_m ty_lst PySem.F.plainAttrs_list PySem.F.slot_list_append PySem.F.type_list_append m_append (sE_var 3) (sA_cons (sE_tup (sA_cons (sE_bin o_add sE_int (sE_bin o_mulI sE_int (sE_var 4))) (sA_cons (sE_ix hu1 (sE_var 1) (sE_var 6)) (sA_cons (sE_ix hu1 (sE_var 1) (sE_var 5)) (sA_cons (sE_bin o_mod (sE_bin o_add (sE_bin o_add (sE_var 7) (sE_var 8)) sE_int) sE_int) (sA_cons (sE_var 8) (sA_cons (sE_var 9) (sA_cons (sE_var 10) sA_nil)))))))) sA_nil)))) sSs_nil))))))))))))
    (sSs_one (sS_ret (sE_tup (sA_cons (sE_var 2) (sA_cons (sE_bt c_tup rfl fx.n_tuple bb_tuple (sA_cons (sE_if (sT_cmp (o_eq hu64) (qE_call (ps := ["_law_state", "_law_many"]) (m := M_law_drawn) (ok_law_drawn G) (hr.mono (by decide)) fx.d__law_drawn tk (sA_cons (sE_var 0) (sA_cons sE_int sA_nil))) sE_int (by with_unfolding_all rfl)) (sE_var 3) (sE_rev (sE_var 3))) sA_nil)) sA_nil))))))))))
/-! #### _law_start -/
abbrev st_law_start : Stmt := (top 61)
abbrev N_law_start : List Str := ["_law_script", "_law_mixed", "_law_cell"]
def b_law_start : MS := sSeq (sSet 1 (eC (.int 1)))
  (sSeq (sFor (iAny (eV 0)) (gV 2) (sSet 1 (eBin (lv dMod) (eBin (lv0 dAdd) (eBin (lv0 dAdd) (eBin (lv dMulI) (eV 1) (eC (.int 48271))) (eV 2)) (eC (.int 7))) (eC (.int 2147483647)))))
  (sRet (eLstM (aCons (eV 0) (aCons (eC (.int 0)) (aCons (eV 1) (aCons (eC (.int 0)) (aNil))))))))
def M_law_start : MF := bodyM 2 b_law_start
theorem ok_law_start {P : Program} {w : World} {K : PySem.W.Frag} {mg : Str → Option Value} {base : Heap} (G : Gx P w K mg base) : FnE P w K mg base 1 (He.ga K "_law_start") ["_law_script"] M_law_start := by
  obtain ⟨fd, F⟩ := G.f_law_start
  have fx := G.fx
  refine ⟨fd, ?_⟩
  refine fn_okC (N := N_law_start) (st := st_law_start) (k := 0) F ⟨rfl, rfl, rfl, by decide +kernel, rfl, by decide +kernel, by decide +kernel⟩ rfl (fun _ _ _ _ _ _ us hl => match us, hl with | [_], _ => rfl) fun cdv A outer s H E hcd hp hr W tk => ?_
  have nd : N_law_start.Nodup := by decide +kernel
  have hu1 := ru1 hr
  have hu64 := ru64 hr
  have hu65 := ru65 hr
  exact (sSs_cons (sS_set (i := 1) nd rfl (by first | exact .inl rfl | exact .inr rfl) sE_int)
    (sSs_cons (sS_for hp rfl (pI_any (sE_var 0)) (sG_name (i := 2) nd rfl (by first | exact .inl rfl | exact .inr rfl)) (sSs_one (sS_set (i := 1) nd rfl (by first | exact .inl rfl | exact .inr rfl) (sE_bin o_mod (sE_bin o_add (sE_bin o_add (sE_bin o_mulI (sE_var 1) sE_int) (sE_var 2)) sE_int) sE_int))))
    (sSs_one (sS_ret (sE_lstM (sA_cons (sE_var 0) (sA_cons sE_int (sA_cons (sE_var 1) (sA_cons sE_int sA_nil)))))))))
/-! #### law -/
abbrev st_law : Stmt := (top 75)
abbrev N_law : List Str := ["_law_script", "_law_state", "_law_turn", "_law_net_here", "_law_rides_here", "_law_duties", "_law_k", "_law_duty", "_law_chain_here", "_law_odd", "_law_works", "_law_gone", "_law_work", "_law_a", "_law_b", "_law_e", "_law_c", "_law_d"]
def kTab_law_0 (q : Str) (F0 F1 F2 F3 F4 F5 : Value → Addr → Value → Value → Obj) : CloTab := [(false, q, F0, (eCall 2 M_judged_duty (aCons (eV 3) (aCons (eV 9) (aNil))))), (true, q, F1, (fun env S => (eCall 2 M_cut (aCons (eV 3) (aCons (eV 9) (aNil)))) (env.set 13 (some (.int 0))) S)), (true, q, F2, (fun env S => (eCall 2 M_rested (aCons (eV 3) (aCons (eLst (aCons (eV 8) (aCons (eV 9) (aNil)))) (aNil)))) (env.set 14 (some (.int 0))) S)), (true, q, F3, (fun env S => (eCall 2 M_judged_duty (aCons (eV 3) (aCons (eV 11) (aNil)))) (env.set 16 (some (.int 0))) S)), (true, q, F4, (fun env S => (eCall 2 M_cut (aCons (eV 3) (aCons (eV 11) (aNil)))) (env.set 17 (some (.int 0))) S)), (true, q, F5, (fun env S => (eCall 2 M_rested (aCons (eV 3) (aCons (eLst (aCons (eV 11) (aCons (eV 9) (aNil)))) (aNil)))) (env.set 15 (some (.int 0))) S))]
def kMs_law_0 : List ME := [(eCall 2 M_judged_duty (aCons (eV 3) (aCons (eV 9) (aNil)))), (fun env S => (eCall 2 M_cut (aCons (eV 3) (aCons (eV 9) (aNil)))) (env.set 13 (some (.int 0))) S), (fun env S => (eCall 2 M_rested (aCons (eV 3) (aCons (eLst (aCons (eV 8) (aCons (eV 9) (aNil)))) (aNil)))) (env.set 14 (some (.int 0))) S), (fun env S => (eCall 2 M_judged_duty (aCons (eV 3) (aCons (eV 11) (aNil)))) (env.set 16 (some (.int 0))) S), (fun env S => (eCall 2 M_cut (aCons (eV 3) (aCons (eV 11) (aNil)))) (env.set 17 (some (.int 0))) S), (fun env S => (eCall 2 M_rested (aCons (eV 3) (aCons (eLst (aCons (eV 11) (aCons (eV 9) (aNil)))) (aNil)))) (env.set 15 (some (.int 0))) S)]
def kR_law_0 : MS := sNil
abbrev kW_law_0 (q : Str) (F0 F1 F2 F3 F4 F5 : Value → Addr → Value → Value → Obj) : MS := sSeq (sSet 10 (eLst (aCons (eClo 0 false q F0) (aCons (eClo 1 true q F1) (aCons (eClo 2 true q F2) (aNil))))))
  (sSeq (sNxt (sSet 11 (eBin (lv0 dAdd) (eCut (eV 8) (pNo) (pSome (eCall 2 M_law_drawn (aCons (eV 1) (aCons (eC (.int 2)) (aNil)))))) (eTup (aCons (eTup (aCons (eC (.int 3)) (aCons (eC (.int 99)) (aNil)))) (aNil))))))
  (sSeq (sCatApp 10 [.clo 3 true q F3, .clo 4 true q F4] (.clo 5 true q F5))
  (sSeq (sIf (tOf (eBin (lv dNe) (eComp (iAny (eV 10)) (gV 12) tYesM (eKindV hdK 12 [10, 12] (kTab_law_0 q F0 F1 F2 F3 F4 F5)) [12]) (eBin (lv0 dAdd) (eBin (lv dRep) (eLst (aCons (eC (.str "BadChain")) (aNil))) (eC (.int 3))) (eBin (lv dRep) (eLst (aCons (eC (.str "NoLeg")) (aNil))) (eC (.int 3)))))) (sRet (eC (.bool false))) (sNil))
  (sSeq (sFgt [10]) kR_law_0))))
def kT_law_0 : MS := sSeq (sNxt (sSet 11 (eBin (lv0 dAdd) (eCut (eV 8) (pNo) (pSome (eCall 2 M_law_drawn (aCons (eV 1) (aCons (eC (.int 2)) (aNil)))))) (eTup (aCons (eTup (aCons (eC (.int 3)) (aCons (eC (.int 99)) (aNil)))) (aNil)))))) (sSeq (sFgt [10]) (sSeq (sIf (tOf (eBin (lv dNe) (eKinds hdK [10, 12] kMs_law_0) (eBin (lv0 dAdd) (eBin (lv dRep) (eLst (aCons (eC (.str "BadChain")) (aNil))) (eC (.int 3))) (eBin (lv dRep) (eLst (aCons (eC (.str "NoLeg")) (aNil))) (eC (.int 3)))))) (sRet (eC (.bool false))) (sNil)) kR_law_0))
theorem kW_law_0_eq (q : Str) (F0 F1 F2 F3 F4 F5 : Value → Addr → Value → Value → Obj) : sGrd 18 (kW_law_0 q F0 F1 F2 F3 F4 F5) = sGrd 18 kT_law_0 := by
  funext env S
  unfold sGrd
  by_cases hn : env.length = 18
  · rw [if_pos hn, if_pos hn]
    have hi0 : 10 < env.length := by omega
    have hj0 : 12 < env.length := by omega
    have hG : ∀ v, (eBin (lv0 dAdd) (eCut (eV 8) (pNo) (pSome (eCall 2 M_law_drawn (aCons (eV 1) (aCons (eC (.int 2)) (aNil)))))) (eTup (aCons (eTup (aCons (eC (.int 3)) (aCons (eC (.int 99)) (aNil)))) (aNil)))) (env.set 10 v) S = (eBin (lv0 dAdd) (eCut (eV 8) (pNo) (pSome (eCall 2 M_law_drawn (aCons (eV 1) (aCons (eC (.int 2)) (aNil)))))) (eTup (aCons (eTup (aCons (eC (.int 3)) (aCons (eC (.int 99)) (aNil)))) (aNil)))) env S := fun v => by simp [List.getElem?_set_ne]
    have hcm : ∀ v d, (env.set 10 v).set 11 d = (env.set 11 d).set 10 v := fun v d => List.set_comm _ _ (by decide)
    have h1 : (sSet 10 (eLst (aCons (eClo 0 false q F0) (aCons (eClo 1 true q F1) (aCons (eClo 2 true q F2) (aNil)))))) env S = .next (env.set 10 (some (.lst [.clo 0 false q F0, .clo 1 true q F1, .clo 2 true q F2]))) S := by simp [sSet, eClo]
    unfold kW_law_0 kT_law_0
    simp only [sSeq_to, h1, andThen_to, sNxt_set, hG]
    generalize (eBin (lv0 dAdd) (eCut (eV 8) (pNo) (pSome (eCall 2 M_law_drawn (aCons (eV 1) (aCons (eC (.int 2)) (aNil)))))) (eTup (aCons (eTup (aCons (eC (.int 3)) (aCons (eC (.int 99)) (aNil)))) (aNil)))) env S = RR
    cases RR with
    | stuck => rfl
    | exc x S0 => rfl
    | ok d0 S0 =>
        have hi : 10 < (env.set 11 (some d0)).length := by simpa using hi0
        have he : ∀ v : Option D, ((env.set 11 (some d0)).set 10 v)[10]? = some v := fun v => List.getElem?_set_self hi
        have hcl : cloDs 0 (kTab_law_0 q F0 F1 F2 F3 F4 F5) = [.clo 0 false q F0, .clo 1 true q F1, .clo 2 true q F2, .clo 3 true q F3, .clo 4 true q F4, .clo 5 true q F5] := rfl
        have hms : (kTab_law_0 q F0 F1 F2 F3 F4 F5).map (fun e => e.2.2.2) = kMs_law_0 := rfl
        have hc := eKinds_of (hd := hdK) (j := 12) (fg := [10, 12]) (tab := kTab_law_0 q F0 F1 F2 F3 F4 F5) (mi := iAny (eV 10)) (env := (env.set 11 (some d0)).set 10 (some (.lst [.clo 0 false q F0, .clo 1 true q F1, .clo 2 true q F2, .clo 3 true q F3, .clo 4 true q F4, .clo 5 true q F5]))) (S := S0) (by rw [hcl]; simp [he, iterD]) (by rw [List.length_set]; simpa using hj0) (by decide)
        rw [eKinds_set (by decide), hms] at hc
        have hT : eKinds hdK [10, 12] kMs_law_0 ((env.set 11 (some d0)).set 10 none) S0 = eKinds hdK [10, 12] kMs_law_0 (env.set 11 (some d0)) S0 := eKinds_set (by decide)
        rcases eKinds_cases hdK [10, 12] kMs_law_0 (env.set 11 (some d0)) S0 with ⟨d, S2, e⟩ | e
        · rw [e] at hc hT
          simp [-eComp_at, sFgt, wipeE, eClo, sCatApp, dAdd, he, hc, hT, ofO_rs, hcm]
          all_goals first | exact fin_if _ _ _ _ _ _ _ _ (by simp [sSeq_to, sFgt, wipeE, andThen_to]) | (split <;> simp [sFgt, wipeE])
        · rw [e] at hc hT
          simp [-eComp_at, sFgt, wipeE, eClo, sCatApp, dAdd, he, hc, hT, ofO_rs, hcm]
          all_goals first | exact fin_if _ _ _ _ _ _ _ _ (by simp [sSeq_to, sFgt, wipeE, andThen_to]) | (split <;> simp [sFgt, wipeE])
  · rw [if_neg hn, if_neg hn]
def b_law : MS := sSeq (sSet 1 (eCall 1 M_law_start (aCons (eV 0) (aNil))))
  (sSeq (sFor (iRng1D (aCons (eC (.int 4)) (aNil))) (gV 2) (sSeq (sSet 3 (eCall 1 M_law_net (aCons (eV 1) (aNil))))
  (sSeq (sSet 4 (eCall 3 M_law_rides (aCons (eV 3) (aCons (eC (.int 0)) (aCons (eC (.int 13)) (aNil))))))
  (sSeq (sSet 5 (eLstM (aNil)))
  (sSeq (sFor (iRng1D (aCons (eBin (lv0 dAdd) (eC (.int 1)) (eCall 2 M_law_drawn (aCons (eV 1) (aCons (eC (.int 5)) (aNil))))) (aNil))) (gV 6) (sSeq (sSet 7 (eCall 4 M_law_chain (aCons (eV 1) (aCons (eV 3) (aCons (eV 4) (aCons (eBin fIx (eLst (aCons (eC (.int 30)) (aCons (eC (.int 30)) (aCons (eC (.int 29)) (aCons (eC (.int 0)) (aNil)))))) (eCall 2 M_law_drawn (aCons (eV 1) (aCons (eC (.int 4)) (aNil))))) (aNil)))))))
  (sSeq (sExpr (eM isLstB bAppend (eV 5) (aCons (eIf (tOf (eBin (lv dGt) (eCall 2 M_law_drawn (aCons (eV 1) (aCons (eC (.int 3)) (aNil)))) (eC (.int 0)))) (eCut (eV 7) (pNo) (pSome (eBin (lv0 dAdd) (eC (.int 1)) (eCall 2 M_law_drawn (aCons (eV 1) (aCons (eC (.int 6)) (aNil))))))) (eV 7)) (aNil))))
  (sSeq (sIf (tNotM (tTru (eCall 2 (M_law_same 12) (aCons (eCall 2 M_judged_duty (aCons (eV 3) (aCons (eBin fIx (eV 5) (eV 6)) (aNil)))) (aCons (eCall 2 M_law_word (aCons (eV 3) (aCons (eBin fIx (eV 5) (eV 6)) (aNil)))) (aNil)))))) (sRet (eC (.bool false))) (sNil))
  (sIf (tNotM (tTru (eCall 2 (M_law_same 12) (aCons (eKind hdK (eCall 2 M_cut (aCons (eV 3) (aCons (eV 7) (aNil))))) (aCons (eCall 2 M_law_cut (aCons (eV 3) (aCons (eV 7) (aNil)))) (aNil)))))) (sRet (eC (.bool false))) (sNil))))))
  (sSeq (sSet 8 (eCall 4 M_law_chain (aCons (eV 1) (aCons (eV 3) (aCons (eV 4) (aCons (eC (.int 30)) (aNil)))))))
  (sSeq (sIf (tOf (eBin fNotIn (eKind hdK (eCall 2 M_cut (aCons (eV 3) (aCons (eV 8) (aNil))))) (eTup (aCons (eC (.str "BadChain")) (aCons (eC (.str "NoDuty")) (aNil)))))) (sSet 5 (eBin fIx (eLst (aCons (eV 5) (aCons (eCall 2 M_cut (aCons (eV 3) (aCons (eV 8) (aNil)))) (aCons (eStep2 (eCall 2 M_cut (aCons (eV 3) (aCons (eV 8) (aNil))))) (aNil))))) (eCall 2 M_law_drawn (aCons (eV 1) (aCons (eC (.int 3)) (aNil)))))) (sNil))
  (sSeq (sIf (tOrM (tNotM (tTru (eCall 2 (M_law_same 12) (aCons (eCall 2 M_rested (aCons (eV 3) (aCons (eV 5) (aNil)))) (aCons (eCall 2 M_law_rested (aCons (eV 3) (aCons (eV 5) (aNil)))) (aNil)))))) (tOf (eBin (lv dIsntN) (eCall 2 M_rested (aCons (eV 3) (aCons (eLst (aNil)) (aNil)))) (eC .none)))) (sRet (eC (.bool false))) (sNil))
  (sSeq (sSet 9 (eBin fIx (eLst (aCons (eTup (aNil)) (aCons (eC .none) (aCons (eB fList (aCons (eV 8) (aNil))) (aCons (eC (.int 5)) (aCons (eC (.str "")) (aNil))))))) (eCall 2 M_law_drawn (aCons (eV 1) (aCons (eC (.int 5)) (aNil))))))
  (sGrd 18 kT_law_0))))))))))
  (sRet (eC (.bool true))))
def M_law : MF := bodyM 17 b_law
theorem ok_law {P : Program} {w : World} {K : PySem.W.Frag} {mg : Str → Option Value} {base : Heap} (G : Gx P w K mg base) {fd : FuncData} (F : FunD K "law" "law" (defArgs (top 75)) (defBody (top 75)) (defScope (top 75)) [] [] (He.ga K "law") fd) : FnM P w K mg base 16 (He.ga K "law") fd ["_law_script"] M_law := by
  have fx := G.fx
  refine fn_okC (N := N_law) (st := st_law) (k := 15) F ⟨rfl, rfl, rfl, by decide +kernel, rfl, by decide +kernel, by decide +kernel⟩ rfl (fun _ _ _ _ _ _ us hl => match us, hl with | [_], _ => rfl) fun cdv A outer s H E hcd hp hr W tk => ?_
  have nd : N_law.Nodup := by decide +kernel
  have hu1 := ru1 hr
  have hu64 := ru64 hr
  have hu65 := ru65 hr
  have lh := lamHere_of (X := cxOf (L2.CX P w) P w K mg base N_law "law" (defScope st_law) (He.ga K "law") cdv A outer s H E) (p := ("law", none)) F rfl (G.tb (("law", none), "law.<locals>.<lambda>") (by decide)) hcd.symm rfl (G.tm (("law", none), "law.<locals>.<lambda>") (by decide)) (G.tu (("law", none), "law.<locals>.<lambda>") (by decide))
  exact (sSs_cons (sS_set (i := 1) nd rfl (by first | exact .inl rfl | exact .inr rfl) (qE_call (ps := ["_law_script"]) (m := M_law_start) (ok_law_start G) (hr.mono (by decide)) fx.d__law_start tk (sA_cons (sE_var 0) sA_nil)))
    (sSs_cons (sS_for hp rfl (pI_rng1 rfl fx.n_range (sA_cons sE_int sA_nil)) (sG_name (i := 2) nd rfl (by first | exact .inl rfl | exact .inr rfl)) (sSs_cons (sS_set (i := 3) nd rfl (by first | exact .inl rfl | exact .inr rfl) (qE_call (ps := ["_law_state"]) (m := M_law_net) (ok_law_net G) (hr.mono (by decide)) fx.d__law_net tk (sA_cons (sE_var 1) sA_nil)))
    (sSs_cons (sS_set (i := 4) nd rfl (by first | exact .inl rfl | exact .inr rfl) (qE_call (ps := ["_law_net_here", "_law_first", "_law_last"]) (m := M_law_rides) (ok_law_rides G) (hr.mono (by decide)) fx.d__law_rides tk (sA_cons (sE_var 3) (sA_cons sE_int (sA_cons sE_int sA_nil)))))
    (sSs_cons (sS_set (i := 5) nd rfl (by first | exact .inl rfl | exact .inr rfl) (sE_lstM sA_nil))
    (sSs_cons (sS_for hp rfl (pI_rng1 rfl fx.n_range (sA_cons (sE_bin o_add sE_int (qE_call (ps := ["_law_state", "_law_many"]) (m := M_law_drawn) (ok_law_drawn G) (hr.mono (by decide)) fx.d__law_drawn tk (sA_cons (sE_var 1) (sA_cons sE_int sA_nil)))) sA_nil)) (sG_name (i := 6) nd rfl (by first | exact .inl rfl | exact .inr rfl)) (sSs_cons (sS_set (i := 7) nd rfl (by first | exact .inl rfl | exact .inr rfl) (qE_call (ps := ["_law_state", "_law_net_here", "_law_rides_here", "_law_gap"]) (m := M_law_chain) (ok_law_chain G) (hr.mono (by decide)) fx.d__law_chain tk (sA_cons (sE_var 1) (sA_cons (sE_var 3) (sA_cons (sE_var 4) (sA_cons (sE_ix hu1 (sE_lst (sA_cons sE_int (sA_cons sE_int (sA_cons sE_int (sA_cons sE_int sA_nil))))) (qE_call (ps := ["_law_state", "_law_many"]) (m := M_law_drawn) (ok_law_drawn G) (hr.mono (by decide)) fx.d__law_drawn tk (sA_cons (sE_var 1) (sA_cons sE_int sA_nil)))) sA_nil))))))
    (sSs_cons (sS_expr (sE_m ty_lst PySem.F.plainAttrs_list PySem.F.slot_list_append PySem.F.type_list_append m_append (sE_var 5) (sA_cons (sE_if (sT_cmp o_gt (qE_call (ps := ["_law_state", "_law_many"]) (m := M_law_drawn) (ok_law_drawn G) (hr.mono (by decide)) fx.d__law_drawn tk (sA_cons (sE_var 1) (sA_cons sE_int sA_nil))) sE_int (by with_unfolding_all rfl)) (sE_cut (sE_var 7) sp_no (sp_some (sE_bin o_add sE_int (qE_call (ps := ["_law_state", "_law_many"]) (m := M_law_drawn) (ok_law_drawn G) (hr.mono (by decide)) fx.d__law_drawn tk (sA_cons (sE_var 1) (sA_cons sE_int sA_nil)))))) (sE_var 7)) sA_nil)))
    (sSs_cons (sS_if (sT_not (sT_val (qE_call (ps := ["_law_found", "_law_due"]) (m := (M_law_same 12)) (ok_law_same G 12) (hr.mono (by decide)) fx.d__law_same tk (sA_cons (qE_call (ps := ["net", "rides"]) (m := M_judged_duty) (ok_judged_duty G) (hr.mono (by decide)) fx.d_judged_duty tk (sA_cons (sE_var 3) (sA_cons (sE_ix hu1 (sE_var 5) (sE_var 6)) sA_nil))) (sA_cons (qE_call (ps := ["_law_net_here", "_law_rides_here"]) (m := M_law_word) (ok_law_word G) (hr.mono (by decide)) fx.d__law_word tk (sA_cons (sE_var 3) (sA_cons (sE_ix hu1 (sE_var 5) (sE_var 6)) sA_nil))) sA_nil))))) (sSs_one (sS_ret sE_bool)) sSs_nil)
    (sSs_one (sS_if (sT_not (sT_val (qE_call (ps := ["_law_found", "_law_due"]) (m := (M_law_same 12)) (ok_law_same G 12) (hr.mono (by decide)) fx.d__law_same tk (sA_cons (qE_kind (hd := hdK) (k := lvKind) (ok_kind G) fx.d__law_kind lh (hr.mono (by decide)) (lamS_by (by kernel_rfl)) (fun A outer s H E f c' hr W tk2 => by
    have hu1 := ru1 hr
    have hu64 := ru64 hr
    have hu65 := ru65 hr
    exact (qE_call (ps := ["net", "rides"]) (m := M_cut) (ok_cut G) (hr.mono (by decide)) fx.d_cut tk2 (sA_cons (sE_var 3) (sA_cons (sE_var 7) sA_nil))))) (sA_cons (qE_call (ps := ["_law_net_here", "_law_rides_here"]) (m := M_law_cut) (ok_law_cut G) (hr.mono (by decide)) fx.d__law_cut tk (sA_cons (sE_var 3) (sA_cons (sE_var 7) sA_nil))) sA_nil))))) (sSs_one (sS_ret sE_bool)) sSs_nil))))))
    (sSs_cons (sS_set (i := 8) nd rfl (by first | exact .inl rfl | exact .inr rfl) (qE_call (ps := ["_law_state", "_law_net_here", "_law_rides_here", "_law_gap"]) (m := M_law_chain) (ok_law_chain G) (hr.mono (by decide)) fx.d__law_chain tk (sA_cons (sE_var 1) (sA_cons (sE_var 3) (sA_cons (sE_var 4) (sA_cons sE_int sA_nil))))))
    (sSs_cons (sS_if (sT_cmp (o_notin hu65) (qE_kind (hd := hdK) (k := lvKind) (ok_kind G) fx.d__law_kind lh (hr.mono (by decide)) (lamS_by (by kernel_rfl)) (fun A outer s H E f c' hr W tk2 => by
    have hu1 := ru1 hr
    have hu64 := ru64 hr
    have hu65 := ru65 hr
    exact (qE_call (ps := ["net", "rides"]) (m := M_cut) (ok_cut G) (hr.mono (by decide)) fx.d_cut tk2 (sA_cons (sE_var 3) (sA_cons (sE_var 8) sA_nil))))) (sE_tup (sA_cons sE_str (sA_cons sE_str sA_nil))) (by with_unfolding_all rfl)) (sSs_one (sS_set (i := 5) nd rfl (by first | exact .inl rfl | exact .inr rfl) (sE_ix hu1 (sE_lst (sA_cons (sE_var 5) (sA_cons (qE_call (ps := ["net", "rides"]) (m := M_cut) (ok_cut G) (hr.mono (by decide)) fx.d_cut tk (sA_cons (sE_var 3) (sA_cons (sE_var 8) sA_nil))) (sA_cons (sE_step2 (qE_call (ps := ["net", "rides"]) (m := M_cut) (ok_cut G) (hr.mono (by decide)) fx.d_cut tk (sA_cons (sE_var 3) (sA_cons (sE_var 8) sA_nil)))) sA_nil)))) (qE_call (ps := ["_law_state", "_law_many"]) (m := M_law_drawn) (ok_law_drawn G) (hr.mono (by decide)) fx.d__law_drawn tk (sA_cons (sE_var 1) (sA_cons sE_int sA_nil)))))) sSs_nil)
    (sSs_cons (sS_if (sT_bop (sW_or (sT_not (sT_val (qE_call (ps := ["_law_found", "_law_due"]) (m := (M_law_same 12)) (ok_law_same G 12) (hr.mono (by decide)) fx.d__law_same tk (sA_cons (qE_call (ps := ["net", "duties"]) (m := M_rested) (ok_rested G) (hr.mono (by decide)) fx.d_rested tk (sA_cons (sE_var 3) (sA_cons (sE_var 5) sA_nil))) (sA_cons (qE_call (ps := ["_law_net_here", "_law_duties"]) (m := M_law_rested) (ok_law_rested G) (hr.mono (by decide)) fx.d__law_rested tk (sA_cons (sE_var 3) (sA_cons (sE_var 5) sA_nil))) sA_nil))))) (sW_or1 (sT_cmp o_isnt (qE_call (ps := ["net", "duties"]) (m := M_rested) (ok_rested G) (hr.mono (by decide)) fx.d_rested tk (sA_cons (sE_var 3) (sA_cons (sE_lst sA_nil) sA_nil))) sE_none (by with_unfolding_all rfl))))) (sSs_one (sS_ret sE_bool)) sSs_nil)
    (sSs_cons (sS_set (i := 9) nd rfl (by first | exact .inl rfl | exact .inr rfl) (sE_ix hu1 (sE_lst (sA_cons (sE_tup sA_nil) (sA_cons sE_none (sA_cons (sE_bt c_list rfl fx.n_list bb_list (sA_cons (sE_var 8) sA_nil)) (sA_cons sE_int (sA_cons sE_str sA_nil)))))) (qE_call (ps := ["_law_state", "_law_many"]) (m := M_law_drawn) (ok_law_drawn G) (hr.mono (by decide)) fx.d__law_drawn tk (sA_cons (sE_var 1) (sA_cons sE_int sA_nil)))))
    (sSs_eq (kW_law_0_eq _ _ _ _ _ _ _) (sSs_grd 18 (sSs_cons (sS_set (i := 10) nd rfl (by first | exact .inl rfl | exact .inr rfl) (sE_lst (sA_cons (sE_clo0 (k := 0) lh (lamS_by (by kernel_rfl)) rfl rfl) (sA_cons (sE_clo1 (k := 1) (x := "_law_a") lh (lamS1_by (by kernel_rfl)) rfl rfl) (sA_cons (sE_clo1 (k := 2) (x := "_law_b") lh (lamS1_by (by kernel_rfl)) rfl rfl) sA_nil)))))
    (sSs_cons (sS_nxt (sS_set (i := 11) nd rfl (by first | exact .inl rfl | exact .inr rfl) (sE_bin o_add (sE_cut (sE_var 8) sp_no (sp_some (qE_call (ps := ["_law_state", "_law_many"]) (m := M_law_drawn) (ok_law_drawn G) (hr.mono (by decide)) fx.d__law_drawn tk (sA_cons (sE_var 1) (sA_cons sE_int sA_nil))))) (sE_tup (sA_cons (sE_tup (sA_cons sE_int (sA_cons sE_int sA_nil))) sA_nil)))))
    (sSs_catApp (sS_set (i := 10) nd rfl (by first | exact .inl rfl | exact .inr rfl) (sE_catM (sE_var 10) (sE_lst (sA_cloC (sE_clo1 (k := 3) (x := "_law_c") lh (lamS1_by (by kernel_rfl)) rfl rfl) (sA_cloC (sE_clo1 (k := 4) (x := "_law_d") lh (lamS1_by (by kernel_rfl)) rfl rfl) sA_nilC))))) (sS_expr (sE_m ty_lst PySem.F.plainAttrs_list PySem.F.slot_list_append PySem.F.type_list_append m_append (sE_var 10) (sA_cons (sE_clo1 (k := 5) (x := "_law_e") lh (lamS1_by (by kernel_rfl)) rfl rfl) sA_nil))) (sSs_cons (sS_if (sT_cmp (o_ne hu64) (qE_compV (k := lvKind) (own := [("_law_work", 12)]) (hd := hdK) (j := 12) (fg := [10, 12]) rfl nd (ok_kind G) fx.d__law_kind (hr.mono (by decide)) rfl rfl rfl (cl_cons (qCl0 (k := lvKind) (lamS_by (by kernel_rfl)) (fun A outer s H E f c' hr W tk2 => by
    have hu1 := ru1 hr
    have hu64 := ru64 hr
    have hu65 := ru65 hr
    exact (qE_call (ps := ["net", "rides"]) (m := M_judged_duty) (ok_judged_duty G) (hr.mono (by decide)) fx.d_judged_duty tk2 (sA_cons (sE_var 3) (sA_cons (sE_var 9) sA_nil))))) (cl_cons (qCl1 (k := lvKind) (i := 13) (lamS1_by (by kernel_rfl)) nd rfl (fun A outer s H E f c' hr W tk2 => by
    have hu1 := ru1 hr
    have hu64 := ru64 hr
    have hu65 := ru65 hr
    exact (qE_call (ps := ["net", "rides"]) (m := M_cut) (ok_cut G) (hr.mono (by decide)) fx.d_cut tk2 (sA_cons (sE_var 3) (sA_cons (sE_var 9) sA_nil))))) (cl_cons (qCl1 (k := lvKind) (i := 14) (lamS1_by (by kernel_rfl)) nd rfl (fun A outer s H E f c' hr W tk2 => by
    have hu1 := ru1 hr
    have hu64 := ru64 hr
    have hu65 := ru65 hr
    exact (qE_call (ps := ["net", "duties"]) (m := M_rested) (ok_rested G) (hr.mono (by decide)) fx.d_rested tk2 (sA_cons (sE_var 3) (sA_cons (sE_lst (sA_cons (sE_var 8) (sA_cons (sE_var 9) sA_nil))) sA_nil))))) (cl_cons (qCl1 (k := lvKind) (i := 16) (lamS1_by (by kernel_rfl)) nd rfl (fun A outer s H E f c' hr W tk2 => by
    have hu1 := ru1 hr
    have hu64 := ru64 hr
    have hu65 := ru65 hr
    exact (qE_call (ps := ["net", "rides"]) (m := M_judged_duty) (ok_judged_duty G) (hr.mono (by decide)) fx.d_judged_duty tk2 (sA_cons (sE_var 3) (sA_cons (sE_var 11) sA_nil))))) (cl_cons (qCl1 (k := lvKind) (i := 17) (lamS1_by (by kernel_rfl)) nd rfl (fun A outer s H E f c' hr W tk2 => by
    have hu1 := ru1 hr
    have hu64 := ru64 hr
    have hu65 := ru65 hr
    exact (qE_call (ps := ["net", "rides"]) (m := M_cut) (ok_cut G) (hr.mono (by decide)) fx.d_cut tk2 (sA_cons (sE_var 3) (sA_cons (sE_var 11) sA_nil))))) (cl_cons (qCl1 (k := lvKind) (i := 15) (lamS1_by (by kernel_rfl)) nd rfl (fun A outer s H E f c' hr W tk2 => by
    have hu1 := ru1 hr
    have hu64 := ru64 hr
    have hu65 := ru65 hr
    exact (qE_call (ps := ["net", "duties"]) (m := M_rested) (ok_rested G) (hr.mono (by decide)) fx.d_rested tk2 (sA_cons (sE_var 3) (sA_cons (sE_lst (sA_cons (sE_var 11) (sA_cons (sE_var 9) sA_nil))) sA_nil))))) cl_nil)))))) (pI_any (sE_var 10)) (blkOk_by (by kernel_rfl)) (by decide) (fun _ _ _ _ _ => (sC_name (i := 12) nd rfl (by first | exact .inl rfl | exact .inr rfl) (by decide)))) (sE_bin o_add (sE_bin o_rep (sE_lst (sA_cons sE_str sA_nil)) sE_int) (sE_bin o_rep (sE_lst (sA_cons sE_str sA_nil)) sE_int)) (by with_unfolding_all rfl)) (sSs_one (sS_ret sE_bool)) sSs_nil)
    (sSs_fgt [10] sSs_nil))))))))))))))))
    (sSs_one (sS_ret sE_bool))))
end
end DL

set_option Elab.async false
set_option linter.all false
set_option maxRecDepth 100000
/-! DL21: what is wanted behind code: rules by which mirrors are run. -/
namespace DL
open PySem PySem.Spec PyProof.Rows L2 LamX
/-- keeps what is wanted from being rewritten ahead of its time -/
inductive Dum {α : Type} (x : α) : Type where
  | mk
/-- what holds behind an expression -/
@[irreducible] def Res.wp {α : Type} (r : Res α) (Q : α → Sto → Prop) (E : XV → Sto → Prop) (_ : Dum Q := .mk) (_ : Dum E := .mk) (_ : True := trivial) : Prop := match r with
  | .ok a S => Q a S
  | .exc e S => E e S
  | .stuck => False
/-- what holds behind statements: next, return, raise, break, continue -/
@[irreducible] def RS.wp (x : RS) (N : En → Sto → Prop) (R : D → Sto → Prop) (E : XV → Sto → Prop) (B C : En → Sto → Prop) (_ : Dum N := .mk) (_ : Dum R := .mk) (_ : Dum E := .mk) (_ : Dum B := .mk) (_ : Dum C := .mk) (_ : True := trivial) : Prop := match x with
  | .next e S => N e S
  | .brk e S => B e S
  | .cont e S => C e S
  | .ret d S => R d S
  | .exc e _ S => E e S
  | .stuck => False
abbrev NoE : XV → Sto → Prop := fun _ _ => False
abbrev NoB : En → Sto → Prop := fun _ _ => False
@[simp] theorem NoE_at (e : XV) (S : Sto) : NoE e S = False := rfl
@[simp] theorem NoB_at (e : En) (S : Sto) : NoB e S = False := rfl
section
variable {α β : Type} {Q Q' : α → Sto → Prop} {E E' : XV → Sto → Prop} {N N' B B' C C' : En → Sto → Prop} {R R' : D → Sto → Prop} {S : Sto} {env : En}
@[simp] theorem wp_ok {a : α} : Res.wp (.ok a S) Q E = Q a S := by unfold Res.wp; rfl
@[simp] theorem wp_stuck : Res.wp (.stuck : Res α) Q E = False := by unfold Res.wp; rfl
@[simp] theorem wp_exc {a : XV} : Res.wp (.exc a S : Res α) Q E = E a S := by unfold Res.wp; rfl
@[simp] theorem wpS_stuck : RS.wp .stuck N R E B C = False := by unfold RS.wp; rfl
@[simp] theorem wpS_next {a : En} : RS.wp (.next a S) N R E B C = N a S := by unfold RS.wp; rfl
@[simp] theorem wpS_ret {a : D} : RS.wp (.ret a S) N R E B C = R a S := by unfold RS.wp; rfl
@[simp] theorem wpS_exc {a : XV} : RS.wp (.exc a env S) N R E B C = E a S := by unfold RS.wp; rfl
@[simp] theorem wpS_brk {a : En} : RS.wp (.brk a S) N R E B C = B a S := by unfold RS.wp; rfl
@[simp] theorem wpS_cont {a : En} : RS.wp (.cont a S) N R E B C = C a S := by unfold RS.wp; rfl
@[simp ↓] theorem wp_bind {r : Res β} {f : β → Sto → Res α} : Res.wp (r.bind f) Q E = Res.wp r (fun a S => Res.wp (f a S) Q E) E := by cases r <;> simp [Res.bind]
@[simp ↓] theorem wp_rs {r : Res β} {k : β → Sto → RS} : RS.wp (r.rs env k) N R E B C = Res.wp r (fun a S => RS.wp (k a S) N R E B C) E := by cases r <;> simp [Res.rs]
@[simp ↓] theorem wp_then {r : RS} {k : MS} : RS.wp (r.andThen k) N R E B C = RS.wp r (fun e S => RS.wp (k e S) N R E B C) R E B C := by cases r <;> simp [RS.andThen]
theorem wp_mono {r : Res α} (h : Res.wp r Q E) (i : ∀ a S, Q a S → Q' a S) (j : ∀ a S, E a S → E' a S) : Res.wp r Q' E' := by
  cases r with
  | ok a S => rw [wp_ok] at *; exact i a S h
  | exc e S => rw [wp_exc] at *; exact j e S h
  | stuck => rw [wp_stuck] at *; exact h
/-- a call whose rule is known; nothing is raised -/
theorem wp_call {r : Res α} (h : Res.wp r Q NoE) (i : ∀ a S, Q a S → Q' a S) : Res.wp r Q' E' := wp_mono h i fun _ _ z => z.elim
theorem wpS_mono {r : RS} (h : RS.wp r N R E B C) (hn : ∀ a S, N a S → N' a S) (hr : ∀ a S, R a S → R' a S) (he : ∀ a S, E a S → E' a S := by exact fun _ _ h => h) (hb : ∀ a S, B a S → B' a S := by exact fun _ _ h => h) (hc : ∀ a S, C a S → C' a S := by exact fun _ _ h => h) : RS.wp r N' R' E' B' C' := by
  cases r with
  | next a S => rw [wpS_next] at *; exact hn a S h
  | ret a S => rw [wpS_ret] at *; exact hr a S h
  | exc a e S => rw [wpS_exc] at *; exact he a S h
  | brk a S => rw [wpS_brk] at *; exact hb a S h
  | cont a S => rw [wpS_cont] at *; exact hc a S h
  | stuck => rw [wpS_stuck] at *; exact h
theorem wp_ite {c : Prop} [Decidable c] {a b : Res α} (h1 : c → Res.wp a Q E) (h2 : ¬c → Res.wp b Q E) : Res.wp (if c then a else b) Q E := by
  by_cases h : c
  · rw [if_pos h]; exact h1 h
  · rw [if_neg h]; exact h2 h
theorem wpS_ite {c : Prop} [Decidable c] {a b : RS} (h1 : c → RS.wp a N R E B C) (h2 : ¬c → RS.wp b N R E B C) : RS.wp (if c then a else b) N R E B C := by
  by_cases h : c
  · rw [if_pos h]; exact h1 h
  · rw [if_neg h]; exact h2 h
theorem wp_ofO {o : Option α} {a : α} (e : o = some a) (q : Q a S) : Res.wp (ofO S o) Q E := by rw [e]; simpa using q
/-- what a def gives -/
theorem wp_body {n : Nat} {m : MS} {ds : List D} {Q : D → Sto → Prop} (h : RS.wp (m (ds.map some ++ List.replicate n none) S) (fun _ S => Q .none S) Q E NoB NoB) : Res.wp (bodyM n m ds S) Q E := by
  rw [bodyM_at]
  generalize m (ds.map some ++ List.replicate n none) S = x at h
  cases x <;> simpa using h
/-! loops -/
theorem wp_loop {τ : Type} {g : MG} {b : MS} {f : τ → D} (I : List τ → List τ → En → Sto → Prop) (xs : List τ)
    (step : ∀ pre x rest env S, pre ++ x :: rest = xs → I pre (x :: rest) env S → ∃ p, g (f x) env S = some p ∧ RS.wp (b p.1 p.2) (I (pre ++ [x]) rest) R E N (I (pre ++ [x]) rest))
    (fin : ∀ env S, I xs [] env S → N env S) : ∀ (pre rest : List τ) (env : En) (S : Sto), pre ++ rest = xs → I pre rest env S → RS.wp (loopI g b (rest.map f) env S) N R E B C := by
  intro pre rest
  induction rest generalizing pre with
  | nil =>
    intro env S e h
    rw [List.append_nil] at e
    subst e
    show RS.wp (.next env S) N R E B C
    rw [wpS_next]
    exact fin env S h
  | cons x rest ih =>
    intro env S e h
    obtain ⟨p, e1, hb⟩ := step pre x rest env S e h
    rw [List.map_cons]
    unfold loopI
    rw [e1]
    simp only []
    generalize b p.1 p.2 = y at hb
    cases y with
    | next e' S' => rw [wpS_next] at hb; exact ih (pre ++ [x]) e' S' (by rw [← e]; simp) hb
    | cont e' S' => rw [wpS_cont] at hb; exact ih (pre ++ [x]) e' S' (by rw [← e]; simp) hb
    | brk e' S' => simpa using hb
    | ret d S' => simpa using hb
    | exc x e' S' => simpa using hb
    | stuck => simpa using hb
theorem wp_for {τ : Type} {g : MG} {b : MS} {f : τ → D} {ds : List D} {env : En} {S : Sto} (xs : List τ) (I : List τ → List τ → En → Sto → Prop) (e : ds = xs.map f) (h : I [] xs env S)
    (step : ∀ pre x rest env S, pre ++ x :: rest = xs → I pre (x :: rest) env S → ∃ p, g (f x) env S = some p ∧ RS.wp (b p.1 p.2) (I (pre ++ [x]) rest) R E N (I (pre ++ [x]) rest))
    (fin : ∀ env S, I xs [] env S → N env S) : RS.wp (loopI g b ds env S) N R E B C := by
  subst e
  exact wp_loop I xs step fin [] xs env S rfl h
/-- a comprehension -/
theorem wp_compI {τ : Type} {g : MG} {tc : MT} {m : ME} {w : En} {f : τ → D} {ds : List D} {Q : List D → Sto → Prop} (xs : List τ) (I : List τ → List τ → List D → Sto → Prop) (e : ds = xs.map f) (h : I [] xs [] S)
    (step : ∀ pre x rest acc S, pre ++ x :: rest = xs → I pre (x :: rest) acc S → ∃ p, g (f x) w S = some p ∧ Res.wp (tc p.1 p.2) (fun c S => if c = true then Res.wp (m p.1 S) (fun v S => acc.length < 1000000 ∧ I (pre ++ [x]) rest (acc ++ [v]) S) NoE else I (pre ++ [x]) rest acc S) NoE)
    (fin : ∀ acc S, I xs [] acc S → Q acc S) : Res.wp (compI g tc m w ds [] S) Q E := by
  subst e
  have loop : ∀ (rest pre : List τ) (acc : List D) (S : Sto), pre ++ rest = xs → I pre rest acc S → Res.wp (compI g tc m w (rest.map f) acc S) Q E := by
    intro rest
    induction rest with
    | nil =>
      intro pre acc S e h
      rw [List.append_nil] at e
      rw [e] at h
      show Res.wp (.ok acc S) Q E
      rw [wp_ok]
      exact fin acc S h
    | cons x rest ih =>
      intro pre acc S e h
      obtain ⟨p, e1, ht⟩ := step pre x rest acc S e h
      rw [List.map_cons]
      unfold compI turnC
      simp only [e1]
      generalize tc p.1 p.2 = y at ht
      cases y with
      | exc _ _ => simp at ht
      | stuck => simp at ht
      | ok c S1 =>
        rw [wp_ok] at ht
        have ht : if c = true then Res.wp (m p.1 S1) (fun v S => acc.length < 1000000 ∧ I (pre ++ [x]) rest (acc ++ [v]) S) NoE else I (pre ++ [x]) rest acc S1 := ht
        cases c with
        | false =>
          simp only [bindS_ok, Bool.false_eq_true, if_false] at ht ⊢
          exact ih (pre ++ [x]) acc S1 (by rw [← e]; simp) ht
        | true =>
          simp only [bindS_ok, if_true] at ht ⊢
          generalize m p.1 S1 = z at ht
          cases z with
          | exc _ _ => simp at ht
          | stuck => simp at ht
          | ok v S2 =>
            rw [wp_ok] at ht
            obtain ⟨hl, hi⟩ := ht
            simp only [bindS_ok, hl, if_true]
            exact ih (pre ++ [x]) (acc ++ [v]) S2 (by rw [← e]; simp) hi
  exact loop xs [] [] S rfl h
/-- a comprehension of what changes nothing, by an own filter and function -/
theorem compI_pure {τ : Type} {g : MG} {tc : MT} {m : ME} {w : En} {f : τ → D} {S : Sto} (xs : List τ) (p : τ → Bool) (v : τ → D) (hl : xs.length ≤ 1000000)
    (hx : ∀ x ∈ xs, ∃ e, g (f x) w S = some (e, S) ∧ tc e S = .ok (p x) S ∧ (p x = true → m e S = .ok (v x) S)) : compI g tc m w (xs.map f) [] S = .ok ((xs.filter p).map v) S := by
  have loop : ∀ (rest : List τ) (acc : List D), (∀ x ∈ rest, x ∈ xs) → acc.length + rest.length ≤ 1000000 → compI g tc m w (rest.map f) acc S = .ok (acc ++ (rest.filter p).map v) S := by
    intro rest
    induction rest with
    | nil => intro acc _ _; simp [compI]
    | cons x rest ih =>
      intro acc hm hl
      obtain ⟨e, e1, e2, e3⟩ := hx x (hm x List.mem_cons_self)
      rw [List.length_cons] at hl
      rw [List.map_cons]
      unfold compI turnC
      simp only [e1, e2, bindS_ok]
      cases hp : p x with
      | false =>
        simp only [Bool.false_eq_true, if_false, bindS_ok]
        rw [ih acc (fun y hy => hm y (List.mem_cons_of_mem _ hy)) (by omega)]
        simp [hp]
      | true =>
        have ha : acc.length < 1000000 := by omega
        simp only [if_true, e3 hp, bindS_ok, ha]
        rw [ih (acc ++ [v x]) (fun y hy => hm y (List.mem_cons_of_mem _ hy)) (by simp; omega)]
        simp [hp]
  exact (loop xs [] (fun _ h => h) (by simpa using hl)).trans (by simp)
/-- while, by a measure -/
theorem wp_while {c : MT} {b : MS} (I : Nat → En → Sto → Prop)
    (step : ∀ k env S, I k env S → Res.wp (c env S) (fun t S => if t = true then RS.wp (b env S) (fun e S => ∃ j, j < k ∧ I j e S) R E N (fun e S => ∃ j, j < k ∧ I j e S) else N env S) E) :
    ∀ (n k : Nat) (env : En) (S : Sto), k < n → I k env S → RS.wp (sWhile c b n env S) N R E B C := by
  intro n
  induction n with
  | zero => intro k env S h; omega
  | succ n ih =>
    intro k env S h hi
    unfold sWhile
    have hs := step k env S hi
    generalize c env S = y at hs
    cases y with
    | stuck => simp at hs
    | exc x S' => simpa using hs
    | ok t S' =>
      rw [wp_ok] at hs
      have hs : if t = true then RS.wp (b env S') (fun e S => ∃ j, j < k ∧ I j e S) R E N (fun e S => ∃ j, j < k ∧ I j e S) else N env S' := hs
      rw [rs_ok]
      cases t with
      | false => simpa using hs
      | true =>
        simp only [if_true] at hs ⊢
        generalize b env S' = z at hs
        cases z with
        | next e S2 => rw [wpS_next] at hs; obtain ⟨j, hj, hi⟩ := hs; exact ih j e S2 (by omega) hi
        | cont e S2 => rw [wpS_cont] at hs; obtain ⟨j, hj, hi⟩ := hs; exact ih j e S2 (by omega) hi
        | brk e S2 => simpa using hs
        | ret e S2 => simpa using hs
        | exc x e S2 => simpa using hs
        | stuck => simpa using hs
end
end DL

set_option Elab.async false
set_option linter.all false
set_option maxRecDepth 100000
/-! DL22: values: equality, keys, indices, cuts, as simp rules. -/
namespace DL
open PySem PySem.Spec PyProof.Rows L2 LamX
@[simp] theorem ofString_inj (a b : String) : (Str.ofString a = Str.ofString b) ↔ a = b := by
  refine ⟨fun h => ?_, fun h => by rw [h]⟩
  rw [Str.ofString_eq_toList, Str.ofString_eq_toList] at h
  have h1 : a.toList.map Char.toNat = b.toList.map Char.toNat := by simpa using h
  have h2 : a.toList = b.toList := (List.map_inj_right fun x y e => Char.toNat_inj.mp e).mp h1
  exact String.toList_inj.mp h2
@[simp] theorem lookup_if (k a : Str) (v : D) (r : List (Str × D)) : List.lookup k ((a, v) :: r) = if k = a then some v else List.lookup k r := by
  rw [List.lookup_cons]
  by_cases h : k = a
  · rw [if_pos h, show (k == a) = true by simp [h]]
  · rw [if_neg h, show (k == a) = false by simp [h]]
/-! == -/
def peqAll (xs ys : List D) : Bool := PyData.eqvAll (pdFs xs) (pdFs ys)
@[simp] theorem peqAll_nil : peqAll [] [] = true := by simp [peqAll, pdFs, PyData.eqvAll]
@[simp] theorem peqAll_nil1 (x : D) (xs : List D) : peqAll [] (x :: xs) = false := by simp [peqAll, pdFs, PyData.eqvAll]
@[simp] theorem peqAll_nil2 (x : D) (xs : List D) : peqAll (x :: xs) [] = false := by simp [peqAll, pdFs, PyData.eqvAll]
@[simp] theorem peqAll_cons (x y : D) (xs ys : List D) : peqAll (x :: xs) (y :: ys) = (peq x y && peqAll xs ys) := by simp [peqAll, peq, pdFs, PyData.eqvAll]
@[simp] theorem peq_int (i j : Int) : peq (.int i) (.int j) = decide (i = j) := by unfold peq pdF PyData.eqv; exact Bool.beq_eq_decide_eq i j
@[simp] theorem peq_str (i j : Str) : peq (.str i) (.str j) = decide (i = j) := by unfold peq pdF PyData.eqv; exact Bool.beq_eq_decide_eq i j
@[simp] theorem peq_bool (i j : Bool) : peq (.bool i) (.bool j) = (i == j) := by unfold peq pdF PyData.eqv; rfl
@[simp] theorem peq_tt (xs ys : List D) : peq (.tup xs) (.tup ys) = peqAll xs ys := by unfold peq pdF PyData.eqv; rfl
@[simp] theorem peq_tp (xs ys : List D) : peq (.tup xs) (.tpn ys) = peqAll xs ys := by unfold peq pdF PyData.eqv; rfl
@[simp] theorem peq_pt (xs ys : List D) : peq (.tpn xs) (.tup ys) = peqAll xs ys := by unfold peq pdF PyData.eqv; rfl
@[simp] theorem peq_pp (xs ys : List D) : peq (.tpn xs) (.tpn ys) = peqAll xs ys := by unfold peq pdF PyData.eqv; rfl
@[simp] theorem peq_ll (xs ys : List D) : peq (.lst xs) (.lst ys) = peqAll xs ys := by unfold peq pdF PyData.eqv; rfl
@[simp] theorem peq_nn : peq .none .none = true := by unfold peq pdF PyData.eqv; rfl
@[simp] theorem peq_lt (xs ys : List D) : peq (.lst xs) (.tup ys) = false := by unfold peq pdF PyData.eqv; rfl
@[simp] theorem peq_tl (xs ys : List D) : peq (.tup xs) (.lst ys) = false := by unfold peq pdF PyData.eqv; rfl
@[simp] theorem peq_sl (x : Str) (ys : List D) : peq (.str x) (.lst ys) = false := by unfold peq pdF PyData.eqv; rfl
@[simp] theorem peq_ls (x : Str) (ys : List D) : peq (.lst ys) (.str x) = false := by unfold peq pdF PyData.eqv; rfl
@[simp] theorem peq_st (x : Str) (ys : List D) : peq (.str x) (.tup ys) = false := by unfold peq pdF PyData.eqv; rfl
@[simp] theorem peq_ts (x : Str) (ys : List D) : peq (.tup ys) (.str x) = false := by unfold peq pdF PyData.eqv; rfl
@[simp] theorem peq_nt (ys : List D) : peq .none (.tup ys) = false := by unfold peq pdF PyData.eqv; rfl
@[simp] theorem peq_tn (ys : List D) : peq (.tup ys) .none = false := by unfold peq pdF PyData.eqv; rfl
@[simp] theorem peq_is (i : Int) (x : Str) : peq (.int i) (.str x) = false := by unfold peq pdF PyData.eqv; rfl
@[simp] theorem peq_si (i : Int) (x : Str) : peq (.str x) (.int i) = false := by unfold peq pdF PyData.eqv; rfl
@[simp] theorem peq_it (i : Int) (x : List D) : peq (.int i) (.tup x) = false := by unfold peq pdF PyData.eqv; rfl
@[simp] theorem peq_ti (i : Int) (x : List D) : peq (.tup x) (.int i) = false := by unfold peq pdF PyData.eqv; rfl
@[simp] theorem peq_ni (i : Int) : peq .none (.int i) = false := by unfold peq pdF PyData.eqv; rfl
@[simp] theorem peq_in (i : Int) : peq (.int i) .none = false := by unfold peq pdF PyData.eqv; rfl
@[simp] theorem peq_ns (i : Str) : peq .none (.str i) = false := by unfold peq pdF PyData.eqv; rfl
@[simp] theorem peq_sn (i : Str) : peq (.str i) .none = false := by unfold peq pdF PyData.eqv; rfl
@[simp] theorem dok_none (n : Nat) : dok n .none = true := by cases n <;> rfl
@[simp] theorem dok_bool (n : Nat) (b : Bool) : dok n (.bool b) = true := by cases n <;> rfl
@[simp] theorem dok_int (n : Nat) (i : Int) : dok n (.int i) = true := by cases n <;> rfl
@[simp] theorem dok_str (n : Nat) (x : Str) : dok n (.str x) = PyData.strOk x := by cases n <;> rfl
@[simp] theorem dok_tup (n : Nat) (xs : List D) : dok (n + 1) (.tup xs) = xs.all (dok n) := rfl
@[simp] theorem dok_lst (n : Nat) (xs : List D) : dok (n + 1) (.lst xs) = xs.all (dok n) := rfl
@[simp] theorem dok_tpn (n : Nat) (xs : List D) : dok (n + 1) (.tpn xs) = xs.all (dok n) := rfl
@[simp] theorem dok_tup60 (xs : List D) : dok 60 (.tup xs) = xs.all (dok 59) := rfl
@[simp] theorem dok_lst60 (xs : List D) : dok 60 (.lst xs) = xs.all (dok 59) := rfl
@[simp] theorem dok_tpn60 (xs : List D) : dok 60 (.tpn xs) = xs.all (dok 59) := rfl
@[simp] theorem dok_tup59 (xs : List D) : dok 59 (.tup xs) = xs.all (dok 58) := rfl
@[simp] theorem dok_lst59 (xs : List D) : dok 59 (.lst xs) = xs.all (dok 58) := rfl
@[simp] theorem dok_tpn59 (xs : List D) : dok 59 (.tpn xs) = xs.all (dok 58) := rfl
@[simp] theorem dok_tup58 (xs : List D) : dok 58 (.tup xs) = xs.all (dok 57) := rfl
@[simp] theorem dok_lst58 (xs : List D) : dok 58 (.lst xs) = xs.all (dok 57) := rfl
@[simp] theorem dok_tpn58 (xs : List D) : dok 58 (.tpn xs) = xs.all (dok 57) := rfl
/-- what stands for values of one kind -/
structure Enc {τ : Type} (k : Nat) (f : τ → D) : Prop where
  dok : ∀ n a, k ≤ n → dok n (f a) = true
  peq : ∀ a b, peq (f a) (f b) = true ↔ a = b
theorem Enc.int : Enc 0 D.int := ⟨fun n a _ => dok_int n a, fun a b => by simp⟩
theorem Enc.all {τ : Type} {k : Nat} {f : τ → D} (h : Enc k f) : ∀ xs ys : List τ, peqAll (xs.map f) (ys.map f) = true ↔ xs = ys
  | [], [] => by simp
  | [], y :: ys => by simp
  | x :: xs, [] => by simp
  | x :: xs, y :: ys => by simp [h.peq, h.all xs ys]
theorem Enc.tup {τ : Type} {k : Nat} {f : τ → D} (h : Enc k f) : Enc (k + 1) fun xs : List τ => D.tup (xs.map f) :=
  ⟨fun n a hn => by
    obtain ⟨m, rfl⟩ : ∃ m, n = m + 1 := ⟨n - 1, by omega⟩
    rw [dok_tup, List.all_map, List.all_eq_true]
    exact fun x _ => h.dok m x (by omega), fun a b => by rw [peq_tt, h.all]⟩
theorem Enc.tpn {τ : Type} {k : Nat} {f : τ → D} (h : Enc k f) : Enc (k + 1) fun xs : List τ => D.tpn (xs.map f) :=
  ⟨fun n a hn => by
    obtain ⟨m, rfl⟩ : ∃ m, n = m + 1 := ⟨n - 1, by omega⟩
    rw [dok_tpn, List.all_map, List.all_eq_true]
    exact fun x _ => h.dok m x (by omega), fun a b => by rw [peq_pp, h.all]⟩
theorem Enc.lst {τ : Type} {k : Nat} {f : τ → D} (h : Enc k f) : Enc (k + 1) fun xs : List τ => D.lst (xs.map f) :=
  ⟨fun n a hn => by
    obtain ⟨m, rfl⟩ : ∃ m, n = m + 1 := ⟨n - 1, by omega⟩
    rw [dok_lst, List.all_map, List.all_eq_true]
    exact fun x _ => h.dok m x (by omega), fun a b => by rw [peq_ll, h.all]⟩
theorem Enc.pair {τ υ : Type} {k l : Nat} {f : τ → D} {g : υ → D} (h : Enc k f) (h' : Enc l g) : Enc (max k l + 1) fun p : τ × υ => D.tup [f p.1, g p.2] :=
  ⟨fun n a hn => by
    obtain ⟨m, rfl⟩ : ∃ m, n = m + 1 := ⟨n - 1, by omega⟩
    simp [h.dok m a.1 (by omega), h'.dok m a.2 (by omega)], fun a b => by simp [h.peq, h'.peq, Prod.ext_iff]⟩
/-! indices -/
theorem atI_get {α : Type} {xs : List α} {i : Int} (h0 : 0 ≤ i) (h1 : i < xs.length) : atI xs i = xs[i.toNat]? := by
  unfold atI ixN
  simp [h0, h1]
theorem atI_nat {α : Type} {xs : List α} {i : Nat} (h1 : i < xs.length) : atI xs i = xs[i]? := by
  rw [atI_get (by omega) (by omega), Int.toNat_natCast]
theorem atI_last {α : Type} {xs : List α} (h : xs ≠ []) : atI xs (-1) = xs.getLast? := by
  have : 0 < xs.length := List.length_pos_iff.mpr h
  unfold atI ixN
  rw [if_neg (by omega), if_pos (by omega), List.getLast?_eq_getElem?]
  rw [Option.bind_some]
  congr 1
  omega
@[simp] theorem atI_0 {α : Type} (x : α) (xs : List α) : atI (x :: xs) 0 = some x := by rw [atI_get (by omega) (by simp)]; rfl
theorem atI_s {α : Type} {x : α} {xs : List α} {i : Int} (h : 0 < i) : atI (x :: xs) i = atI xs (i - 1) := by
  unfold atI ixN
  by_cases hl : i < xs.length + 1
  · rw [if_pos (by omega), if_pos (by simpa using hl), if_pos (by omega), if_pos (by omega)]
    simp only [Option.bind_some]
    obtain ⟨j, rfl⟩ : ∃ j : Nat, i = j + 1 := ⟨(i - 1).toNat, by omega⟩
    rw [show ((j : Int) + 1).toNat = j + 1 by omega, show ((j : Int) + 1 - 1).toNat = j by omega]
    rfl
  · rw [if_pos (by omega), if_neg (by simpa using hl), if_pos (by omega), if_neg (by omega)]; rfl
@[simp] theorem atI_1 {α : Type} (x : α) (xs : List α) : atI (x :: xs) 1 = atI xs 0 := atI_s (by omega)
@[simp] theorem atI_2 {α : Type} (x : α) (xs : List α) : atI (x :: xs) 2 = atI xs 1 := atI_s (by omega)
@[simp] theorem atI_3 {α : Type} (x : α) (xs : List α) : atI (x :: xs) 3 = atI xs 2 := atI_s (by omega)
@[simp] theorem atI_4 {α : Type} (x : α) (xs : List α) : atI (x :: xs) 4 = atI xs 3 := atI_s (by omega)
@[simp] theorem atI_5 {α : Type} (x : α) (xs : List α) : atI (x :: xs) 5 = atI xs 4 := atI_s (by omega)
@[simp] theorem atI_6 {α : Type} (x : α) (xs : List α) : atI (x :: xs) 6 = atI xs 5 := atI_s (by omega)
@[simp] theorem fIx_tup (S : Sto) (xs : List D) (i : Int) : fIx S (.tup xs) (.int i) = atI xs i := rfl
@[simp] theorem fIx_tpn (S : Sto) (xs : List D) (i : Int) : fIx S (.tpn xs) (.int i) = atI xs i := rfl
@[simp] theorem fIx_lst (S : Sto) (xs : List D) (i : Int) : fIx S (.lst xs) (.int i) = atI xs i := rfl
@[simp] theorem fIx_ro (S : Sto) (xs : List D) (i : Int) : fIx S (.ro xs) (.int i) = atI xs i := rfl
theorem fIx_loc {S : Sto} {l : Nat} {xs : List D} (h : S[l]? = some (.lst xs)) (i : Int) : fIx S (.loc l) (.int i) = atI xs i := by simp [fIx, h]
@[simp] theorem dctOf_dct (t : Bool) (kvs : List (D × D)) : dctOf (some (.dct t kvs)) = some (t, kvs) := rfl
@[simp] theorem dctOf_fdc (t : Bool) (kvs : List (D × D)) : dctOf (some (.fdc t kvs)) = some (t, kvs) := rfl
@[simp] theorem dctOf_lst (xs : List D) : dctOf (some (.lst xs)) = none := rfl
@[simp] theorem dctOf_none : dctOf none = none := rfl
theorem fIx_of {S : Sto} {l : Nat} {t : Bool} {kvs : List (D × D)} (h : dctOf S[l]? = some (t, kvs)) (k : D) : fIx S (.loc l) k = if keyOk t k then dLook t kvs k else none := by rcases dctOf_some h with h | h <;> simp [fIx, h]
theorem fIx_fdc {S : Sto} {l : Nat} {t : Bool} {kvs : List (D × D)} (h : S[l]? = some (.fdc t kvs)) (k : D) : fIx S (.loc l) k = if keyOk t k then dLook t kvs k else none := by simp [fIx, h]
theorem fIx_dct {S : Sto} {l : Nat} {t : Bool} {kvs : List (D × D)} (h : S[l]? = some (.dct t kvs)) (k : D) : fIx S (.loc l) k = if keyOk t k then dLook t kvs k else none := by simp [fIx, h]
theorem mem_of_atI {α : Type} {xs : List α} {i : Int} (h0 : 0 ≤ i) (h1 : i < xs.length) : ∃ x ∈ xs, atI xs i = some x := by
  rw [atI_get h0 h1, List.getElem?_eq_getElem (by omega)]
  exact ⟨_, List.getElem_mem _, rfl⟩
/-! lengths, kinds -/
@[simp] theorem fLen_tup (S : Sto) (xs : List D) : fLen S [.tup xs] = some (.int xs.length) := rfl
@[simp] theorem fLen_tpn (S : Sto) (xs : List D) : fLen S [.tpn xs] = some (.int xs.length) := rfl
@[simp] theorem fLen_lst (S : Sto) (xs : List D) : fLen S [.lst xs] = some (.int xs.length) := rfl
@[simp] theorem fLen_ro (S : Sto) (xs : List D) : fLen S [.ro xs] = some (.int xs.length) := rfl
theorem fLen_loc {S : Sto} {l : Nat} {xs : List D} (h : S[l]? = some (.lst xs)) : fLen S [.loc l] = some (.int xs.length) := by simp [fLen, h]
@[simp] theorem fInt_int (S : Sto) (i : Int) : fInt S [.int i] = some (.int i) := rfl
@[simp] theorem fTup_lst (S : Sto) (xs : List D) : fTup S [.lst xs] = some (.tpn xs) := rfl
theorem fTup_loc {S : Sto} {l : Nat} {xs : List D} (h : S[l]? = some (.lst xs)) : fTup S [.loc l] = some (.tpn xs) := by simp [fTup, h]
@[simp] theorem fSum_ints (S : Sto) (xs : List Int) : fSum S [.lst (xs.map .int)] = some (.int xs.sum) := by
  have h : intsOf (xs.map .int) = some xs := by
    induction xs with
    | nil => rfl
    | cons x xs ih => simp [intsOf, ih]
  simp [fSum, h]
@[simp] theorem fAll_bools (S : Sto) (xs : List Bool) : fAll S [.lst (xs.map .bool)] = some (.bool (xs.all id)) := by
  have h : boolsOf (xs.map .bool) = some xs := by
    induction xs with
    | nil => rfl
    | cons x xs ih => simp [boolsOf, ih]
  simp [fAll, h]
@[simp] theorem fMax2_int (S : Sto) (i j : Int) : fMax2 S [.int i, .int j] = some (.int (max i j)) := by
  unfold fMax2
  simp only [Option.some.injEq, D.int.injEq]
  split <;> omega
@[simp] theorem fMin2_int (S : Sto) (i j : Int) : fMin2 S [.int i, .int j] = some (.int (min i j)) := by
  unfold fMin2
  simp only [Option.some.injEq, D.int.injEq]
  split <;> omega
/-! truth -/
@[simp] theorem dTru_bool (S : Sto) (b : Bool) : dTru S (.bool b) = some b := rfl
@[simp] theorem dTru_tup (S : Sto) (xs : List D) : dTru S (.tup xs) = some (!xs.isEmpty) := rfl
@[simp] theorem dTru_lst (S : Sto) (xs : List D) : dTru S (.lst xs) = some (!xs.isEmpty) := rfl
@[simp] theorem dTru_int (S : Sto) (i : Int) : dTru S (.int i) = some (i != 0) := rfl
/-! what is walked through -/
@[simp] theorem iterD_tup (S : Sto) (xs : List D) : iterD S (.tup xs) = some (.items xs) := by simp [iterD]
@[simp] theorem iterD_tpn (S : Sto) (xs : List D) : iterD S (.tpn xs) = some (.items xs) := by simp [iterD]
@[simp] theorem iterD_lst (S : Sto) (xs : List D) : iterD S (.lst xs) = some (.items xs) := by simp [iterD]
@[simp] theorem iterD_ro (S : Sto) (xs : List D) : iterD S (.ro xs) = some (.items xs) := by simp [iterD]
/-! cuts -/
theorem cut_from {α : Type} (xs : List α) (i : Nat) : cutD xs (some (i : Int)) none = xs.drop i := by
  unfold cutD
  rw [HT.sIx_nat, HT.sIx_none]
  by_cases h : i ≤ xs.length
  · rw [Nat.min_eq_left h]; exact List.take_of_length_le (by simp)
  · rw [Nat.min_eq_right (by omega), List.drop_length, List.drop_eq_nil_of_le (by omega), List.take_nil]
theorem cut_to {α : Type} (xs : List α) (i : Nat) : cutD xs none (some (i : Int)) = xs.take i := by
  unfold cutD
  rw [HT.sIx_nat, HT.sIx_none, List.drop_zero, Nat.sub_zero]
  by_cases h : i ≤ xs.length
  · rw [Nat.min_eq_left h]
  · rw [Nat.min_eq_right (by omega), List.take_of_length_le (Nat.le_refl _), List.take_of_length_le (by omega)]
theorem cut_both {α : Type} (xs : List α) {i j : Nat} (hj : j ≤ xs.length) (h : i ≤ j) : cutD xs (some (i : Int)) (some (j : Int)) = (xs.drop i).take (j - i) := by
  unfold cutD
  rw [HT.sIx_nat, HT.sIx_nat, Nat.min_eq_left hj, Nat.min_eq_left (by omega)]
theorem vt_cut {d : D} {xs : List D} (h : d = .tup xs ∨ d = .tpn xs) (lo hi : Option Int) : ∃ d', fCut d lo hi = some d' ∧ (d' = .tup (cutD xs lo hi) ∨ d' = .tpn (cutD xs lo hi)) := by
  rcases h with rfl | rfl
  · exact ⟨_, rfl, .inl rfl⟩
  · refine ⟨_, rfl, ?_⟩
    split
    · rename_i h
      right
      congr 1
      unfold cutD
      rw [h.1, h.2]
      simp
    · exact .inl rfl
@[simp] theorem fCut_lst (xs : List D) (lo hi : Option Int) : fCut (.lst xs) lo hi = some (.lst (cutD xs lo hi)) := rfl
@[simp] theorem fCut_tup (xs : List D) (lo hi : Option Int) : fCut (.tup xs) lo hi = some (.tup (cutD xs lo hi)) := rfl
/-! dicts by numbers -/
theorem look_int {τ : Type} (xs : List τ) (k : τ → Int) (v : τ → D) (n : Int) : dLook false (xs.map fun x => (.int (k x), v x)) (.int n) = (xs.find? fun x => k x == n).map v := by
  unfold dLook
  rw [List.find?_map, Option.map_map]
  congr 1
  congr 1
  funext x
  simp only [Function.comp_apply, keq, keyOf, Option.some.injEq, Sum.inl.injEq]
  exact (Bool.beq_eq_decide_eq _ _).symm
@[simp] theorem keyOk_int (i : Int) : keyOk false (.int i) = true := rfl
@[simp] theorem keyOk_str (i : Str) : keyOk false (.str i) = true := rfl
/-! two behind one another -/
theorem zip_map {τ : Type} (f : τ → D) : ∀ xs ys : List τ, zipD (xs.map f) (ys.map f) = (xs.zip ys).map fun p => D.tup [f p.1, f p.2]
  | [], ys => by cases ys <;> rfl
  | x :: xs, [] => rfl
  | x :: xs, y :: ys => by simp [zipD, zip_map f xs ys]
theorem enum_map {τ : Type} (f : τ → D) : ∀ (xs : List τ) (n : Nat), enumD n (xs.map f) = (xs.zipIdx n).map fun p => D.tup [.int (p.2 : Nat), f p.1]
  | [], _ => rfl
  | x :: xs, n => by simp [enumD, enum_map f xs (n + 1)]
@[simp] theorem cMul_l2 (j : Int) : cMul 2 j = true := by simp [cMul]
@[simp] theorem cMul_r2 (j : Int) : cMul j 2 = true := by simp [cMul]
@[simp] theorem cMul_l3 (j : Int) : cMul 3 j = true := by simp [cMul]
@[simp] theorem cMul_r3 (j : Int) : cMul j 3 = true := by simp [cMul]
@[simp] theorem cMul_l5 (j : Int) : cMul 5 j = true := by simp [cMul]
@[simp] theorem cMul_r5 (j : Int) : cMul j 5 = true := by simp [cMul]
@[simp] theorem cMul_l7 (j : Int) : cMul 7 j = true := by simp [cMul]
@[simp] theorem cMul_r7 (j : Int) : cMul j 7 = true := by simp [cMul]
@[simp] theorem cMul_l10 (j : Int) : cMul 10 j = true := by simp [cMul]
@[simp] theorem cMul_r10 (j : Int) : cMul j 10 = true := by simp [cMul]
@[simp] theorem cMul_l20 (j : Int) : cMul 20 j = true := by simp [cMul]
@[simp] theorem cMul_r20 (j : Int) : cMul j 20 = true := by simp [cMul]
@[simp] theorem cMul_l30 (j : Int) : cMul 30 j = true := by simp [cMul]
@[simp] theorem cMul_r30 (j : Int) : cMul j 30 = true := by simp [cMul]
@[simp] theorem cMul_l60 (j : Int) : cMul 60 j = true := by simp [cMul]
@[simp] theorem cMul_r60 (j : Int) : cMul j 60 = true := by simp [cMul]
@[simp] theorem cMul_l100 (j : Int) : cMul 100 j = true := by simp [cMul]
@[simp] theorem cMul_r100 (j : Int) : cMul j 100 = true := by simp [cMul]
@[simp] theorem cMul_l1440 (j : Int) : cMul 1440 j = true := by simp [cMul]
@[simp] theorem cMul_r1440 (j : Int) : cMul j 1440 = true := by simp [cMul]
@[simp] theorem cMul_l48271 (j : Int) : cMul 48271 j = true := by simp [cMul]
@[simp] theorem cMul_r48271 (j : Int) : cMul j 48271 = true := by simp [cMul]
@[simp] theorem cMod_2 (j : Int) : cMod j 2 = true := by simp [cMod]
@[simp] theorem cMod_3 (j : Int) : cMod j 3 = true := by simp [cMod]
@[simp] theorem cMod_4 (j : Int) : cMod j 4 = true := by simp [cMod]
@[simp] theorem cMod_7 (j : Int) : cMod j 7 = true := by simp [cMod]
@[simp] theorem cMod_100 (j : Int) : cMod j 100 = true := by simp [cMod]
@[simp] theorem cMod_1440 (j : Int) : cMod j 1440 = true := by simp [cMod]
@[simp] theorem cMod_2147483647 (j : Int) : cMod j 2147483647 = true := by simp [cMod]
@[simp] theorem cDiv_2 (j : Int) : cDiv j 2 = true := by simp [cDiv]
@[simp] theorem cDiv_4 (j : Int) : cDiv j 4 = true := by simp [cDiv]
@[simp] theorem cDiv_7 (j : Int) : cDiv j 7 = true := by simp [cDiv]
@[simp] theorem cDiv_100 (j : Int) : cDiv j 100 = true := by simp [cDiv]
@[simp] theorem cDiv_1440 (j : Int) : cDiv j 1440 = true := by simp [cDiv]
@[simp] theorem smallI_0 : smallI 0 = true := smallI_iff.mpr (by decide)
@[simp] theorem smallI_1 : smallI 1 = true := smallI_iff.mpr (by decide)
@[simp] theorem smallI_2 : smallI 2 = true := smallI_iff.mpr (by decide)
@[simp] theorem smallI_3 : smallI 3 = true := smallI_iff.mpr (by decide)
@[simp] theorem smallI_4 : smallI 4 = true := smallI_iff.mpr (by decide)
@[simp] theorem smallI_5 : smallI 5 = true := smallI_iff.mpr (by decide)
@[simp] theorem smallI_7 : smallI 7 = true := smallI_iff.mpr (by decide)
@[simp] theorem smallI_8 : smallI 8 = true := smallI_iff.mpr (by decide)
theorem cMul_small {i j : Int} (h : -18446744073709551616 < i ∧ i < 18446744073709551616) : cMul i j = true := by
  simp [cMul, h.1, h.2]
theorem smallI_of {i : Int} (h : -4611686018427387904 ≤ i ∧ i < 4611686018427387904) : smallI i = true := by
  exact smallI_iff.mpr ⟨by omega, by omega⟩
@[simp] theorem set_concat {α : Type} (T : List α) (x y : α) : (T ++ [x]).set T.length y = T ++ [y] := by
  rw [List.set_append_right _ _ (Nat.le_refl _)]; simp
@[simp] theorem wipe_nil (e : En) : wipeE e [] = e := rfl
@[simp] theorem wipe_cons (e : En) (v : Nat) (vs : List Nat) : wipeE e (v :: vs) = (wipeE e vs).set v none := rfl
end DL

set_option Elab.async false
set_option linter.all false
set_option maxRecDepth 100000
/-! DL23: the combinators under wp, one step at a time. Printed by wpgen.py. -/
namespace DL
open PySem PySem.Spec PyProof.Rows L2 LamX
section
variable {N B B2 : En → Sto → Prop} {R : D → Sto → Prop} {E : XV → Sto → Prop}

@[simp ↓] theorem wq_eBin (f : Sto → D → D → Option D) (ma mb : ME) (env : En) (S : Sto) {Q : D → Sto → Prop} : Res.wp (eBin f ma mb env S) Q E = Res.wp ((ma env S).bind fun a S => (mb env S).bind fun b S => ofO S (f S a b)) Q E := rfl
@[simp ↓] theorem wq_tOf (m : ME) (env : En) (S : Sto) {Q : Bool → Sto → Prop} : Res.wp (tOf m env S) Q E = Res.wp ((m env S).bind fun d S => match d with
  | .bool b => .ok b S
  | _ => .stuck) Q E := rfl
@[simp ↓] theorem wq_pNo (x0 : En) (S : Sto) {Q : Option Int → Sto → Prop} : Res.wp (pNo  x0 S) Q E = Res.wp (.ok none S) Q E := rfl
@[simp ↓] theorem wq_pSome (m : ME) (env : En) (S : Sto) {Q : Option Int → Sto → Prop} : Res.wp (pSome m env S) Q E = Res.wp ((m env S).bind fun d S => match d with
  | .int i => .ok (some i) S
  | _ => .stuck) Q E := rfl
@[simp ↓] theorem wq_eCut (m : ME) (ml mh : MP) (env : En) (S : Sto) {Q : D → Sto → Prop} : Res.wp (eCut m ml mh env S) Q E = Res.wp ((m env S).bind fun d S => (ml env S).bind fun lo S => (mh env S).bind fun hi S => ofO S (fCut (view0 S d) lo hi)) Q E := rfl
@[simp ↓] theorem wq_eC (d : D) (x0 : En) (S : Sto) {Q : D → Sto → Prop} : Res.wp (eC d x0 S) Q E = Res.wp (.ok d S) Q E := rfl
@[simp ↓] theorem wq_eV (i : Nat) (env : En) (S : Sto) {Q : D → Sto → Prop} : Res.wp (eV i env S) Q E = Res.wp (match env[i]? with
  | some (some d) => .ok d S
  | _ => .stuck) Q E := rfl
@[simp ↓] theorem wq_tTru (m : ME) (env : En) (S : Sto) {Q : Bool → Sto → Prop} : Res.wp (tTru m env S) Q E = Res.wp ((m env S).bind fun d S => ofO S (dTru S d)) Q E := rfl
@[simp ↓] theorem wq_tAndM (ma mb : MT) (env : En) (S : Sto) {Q : Bool → Sto → Prop} : Res.wp (tAndM ma mb env S) Q E = Res.wp ((ma env S).bind fun c S => if c = true then mb env S else .ok false S) Q E := rfl
@[simp ↓] theorem wq_tOrM (ma mb : MT) (env : En) (S : Sto) {Q : Bool → Sto → Prop} : Res.wp (tOrM ma mb env S) Q E = Res.wp ((ma env S).bind fun c S => if c = true then .ok true S else mb env S) Q E := rfl
@[simp ↓] theorem wq_tNotM (ma : MT) (env : En) (S : Sto) {Q : Bool → Sto → Prop} : Res.wp (tNotM ma env S) Q E = Res.wp ((ma env S).bind fun c S => .ok (!c) S) Q E := rfl
@[simp ↓] theorem wq_eAnd (ma mb : ME) (env : En) (S : Sto) {Q : D → Sto → Prop} : Res.wp (eAnd ma mb env S) Q E = Res.wp ((ma env S).bind fun d S => (ofO S (dTru S d)).bind fun c S => if c = true then mb env S else .ok d S) Q E := rfl
@[simp ↓] theorem wq_eOr (ma mb : ME) (env : En) (S : Sto) {Q : D → Sto → Prop} : Res.wp (eOr ma mb env S) Q E = Res.wp ((ma env S).bind fun d S => (ofO S (dTru S d)).bind fun c S => if c = true then .ok d S else mb env S) Q E := rfl
@[simp ↓] theorem wq_eNot (ma : ME) (env : En) (S : Sto) {Q : D → Sto → Prop} : Res.wp (eNot ma env S) Q E = Res.wp ((ma env S).bind fun d S => (ofO S (dTru S d)).bind fun c S => .ok (.bool (!c)) S) Q E := rfl
@[simp ↓] theorem wq_eIf (tc : MT) (ma mb : ME) (env : En) (S : Sto) {Q : D → Sto → Prop} : Res.wp (eIf tc ma mb env S) Q E = Res.wp ((tc env S).bind fun c S => if c = true then ma env S else mb env S) Q E := rfl
@[simp ↓] theorem wq_eNeg (ma : ME) (env : En) (S : Sto) {Q : D → Sto → Prop} : Res.wp (eNeg ma env S) Q E = Res.wp ((ma env S).bind fun d S => match d with
  | .int i => .ok (.int (-i)) S
  | _ => .stuck) Q E := rfl
@[simp ↓] theorem wq_eChain (f g : Sto → D → D → Option D) (ma mb mc : ME) (env : En) (S : Sto) {Q : D → Sto → Prop} : Res.wp (eChain f g ma mb mc env S) Q E = Res.wp ((ma env S).bind fun a S => (mb env S).bind fun b S => match f S a b with
  | some (.bool true) => (mc env S).bind fun c S => ofO S (g S b c)
  | some (.bool false) => .ok (.bool false) S
  | _ => .stuck) Q E := rfl
@[simp ↓] theorem wq_aNil (x0 : En) (S : Sto) {Q : List D → Sto → Prop} : Res.wp (aNil  x0 S) Q E = Res.wp (.ok [] S) Q E := rfl
@[simp ↓] theorem wq_aCons (m : ME) (r : MA) (env : En) (S : Sto) {Q : List D → Sto → Prop} : Res.wp (aCons m r env S) Q E = Res.wp ((m env S).bind fun d S => (r env S).bind fun ds S => .ok (d :: ds) S) Q E := rfl
@[simp ↓] theorem wq_eTup (r : MA) (env : En) (S : Sto) {Q : D → Sto → Prop} : Res.wp (eTup r env S) Q E = Res.wp ((r env S).bind fun ds S => if ds.length ≤ 1000000 then .ok (.tup ds) S else .stuck) Q E := rfl
@[simp ↓] theorem wq_eLst (r : MA) (env : En) (S : Sto) {Q : D → Sto → Prop} : Res.wp (eLst r env S) Q E = Res.wp ((r env S).bind fun ds S => if ds.length ≤ 1000000 then .ok (.lst ds) S else .stuck) Q E := rfl
@[simp ↓] theorem wq_eLstM (r : MA) (env : En) (S : Sto) {Q : D → Sto → Prop} : Res.wp (eLstM r env S) Q E = Res.wp ((r env S).bind fun ds S => if ds.length ≤ 1000000 then .ok (.loc S.length) (S ++ [.lst ds]) else .stuck) Q E := rfl
@[simp ↓] theorem wq_eDct (t : Bool) (x0 : En) (S : Sto) {Q : D → Sto → Prop} : Res.wp (eDct t x0 S) Q E = Res.wp (.ok (.loc S.length) (S ++ [.dct t []])) Q E := rfl
@[simp ↓] theorem wq_sNil (env : En) (S : Sto) : RS.wp (sNil  env S) N R E B B2 = RS.wp (.next env S) N R E B B2 := rfl
@[simp ↓] theorem wq_sSeq (a b : MS) (env : En) (S : Sto) : RS.wp (sSeq a b env S) N R E B B2 = RS.wp ((a env S).andThen b) N R E B B2 := rfl
@[simp ↓] theorem wq_sExpr (m : ME) (env : En) (S : Sto) : RS.wp (sExpr m env S) N R E B B2 = RS.wp ((m env S).rs env fun _ S => .next env S) N R E B B2 := rfl
@[simp ↓] theorem wq_sRet (m : ME) (env : En) (S : Sto) : RS.wp (sRet m env S) N R E B B2 = RS.wp ((m env S).rs env fun d S => .ret d S) N R E B B2 := rfl
@[simp ↓] theorem wq_sRetN (x0 : En) (S : Sto) : RS.wp (sRetN  x0 S) N R E B B2 = RS.wp (.ret .none S) N R E B B2 := rfl
@[simp ↓] theorem wq_sBreak (env : En) (S : Sto) : RS.wp (sBreak  env S) N R E B B2 = RS.wp (.brk env S) N R E B B2 := rfl
@[simp ↓] theorem wq_sCont (env : En) (S : Sto) : RS.wp (sCont  env S) N R E B B2 = RS.wp (.cont env S) N R E B B2 := rfl
@[simp ↓] theorem wq_sStuck (x0 : En) (x1 : Sto) : RS.wp (sStuck  x0 x1) N R E B B2 = RS.wp (.stuck) N R E B B2 := rfl
@[simp ↓] theorem wq_eStuck (x0 : En) (x1 : Sto) {Q : D → Sto → Prop} : Res.wp (eStuck  x0 x1) Q E = Res.wp (.stuck) Q E := rfl
@[simp ↓] theorem wq_sIf (tc : MT) (a b : MS) (env : En) (S : Sto) : RS.wp (sIf tc a b env S) N R E B B2 = RS.wp ((tc env S).rs env fun c S => if c = true then a env S else b env S) N R E B B2 := rfl
@[simp ↓] theorem wq_sAsg (m : ME) (g : MG) (env : En) (S : Sto) : RS.wp (sAsg m g env S) N R E B B2 = RS.wp ((m env S).rs env fun d S => ofG (g d env S)) N R E B B2 := rfl
@[simp ↓] theorem wq_sPar (i j : Nat) (r : MA) (env : En) (S : Sto) : RS.wp (sPar i j r env S) N R E B B2 = RS.wp ((r env S).rs env fun ds S => match ds with
  | [a, b] => .next ((env.set i (some a)).set j (some b)) S
  | _ => .stuck) N R E B B2 := rfl
@[simp ↓] theorem wq_sSet (i : Nat) (m : ME) (env : En) (S : Sto) : RS.wp (sSet i m env S) N R E B B2 = RS.wp ((m env S).rs env fun d S => .next (env.set i (some d)) S) N R E B B2 := rfl
@[simp ↓] theorem wq_sAug (i : Nat) (f : Sto → D → D → Option D) (m : ME) (env : En) (S : Sto) : RS.wp (sAug i f m env S) N R E B B2 = RS.wp (match env[i]? with
  | some (some a) => (m env S).rs env fun b S => match f S a b with
    | some d => .next (env.set i (some d)) S
    | none => .stuck
  | _ => .stuck) N R E B B2 := rfl
@[simp ↓] theorem wq_iAny (m : ME) (env : En) (S : Sto) {Q : ItD → Sto → Prop} : Res.wp (iAny m env S) Q E = Res.wp ((m env S).bind fun d S => ofO S (iterD S d)) Q E := rfl
@[simp ↓] theorem wq_iRng1D (r : MA) (env : En) (S : Sto) {Q : ItD → Sto → Prop} : Res.wp (iRng1D r env S) Q E = Res.wp ((r env S).bind fun ds S => match ds with
  | [.int j] => if smallI j then .ok (.items (rngD 0 j.toNat)) S else .stuck
  | _ => .stuck) Q E := rfl
@[simp ↓] theorem wq_iRng2D (r : MA) (env : En) (S : Sto) {Q : ItD → Sto → Prop} : Res.wp (iRng2D r env S) Q E = Res.wp ((r env S).bind fun ds S => match ds with
  | [.int i, .int j] => if smallI i && smallI j then .ok (.items (rngD i (j - i).toNat)) S else .stuck
  | _ => .stuck) Q E := rfl
@[simp ↓] theorem wq_iEnumD (r : MA) (env : En) (S : Sto) {Q : ItD → Sto → Prop} : Res.wp (iEnumD r env S) Q E = Res.wp ((r env S).bind fun ds S => match ds.map vt with
  | [.tup xs] => .ok (.items (enumD 0 xs)) S
  | [.lst xs] => .ok (.items (enumD 0 xs)) S
  | [.loc l] => match S[l]? with
    | some (.lst _) => .ok (.liveE l) S
    | _ => .stuck
  | _ => .stuck) Q E := rfl
@[simp ↓] theorem wq_iZipD (r : MA) (env : En) (S : Sto) {Q : ItD → Sto → Prop} : Res.wp (iZipD r env S) Q E = Res.wp ((r env S).bind fun ds S => match ds.map vt with
  | [.tup xs, .tup ys] => .ok (.items (zipD xs ys)) S
  | [.lst xs, .lst ys] => .ok (.items (zipD xs ys)) S
  | _ => .stuck) Q E := rfl
@[simp ↓] theorem wq_sFor (mi : MI) (g : MG) (b : MS) (env : En) (S : Sto) : RS.wp (sFor mi g b env S) N R E B B2 = RS.wp ((mi env S).rs env fun it S => match it with
  | .items ds => loopI g b ds env S
  | .live l => loopL g b l (lenL S l + 1) 0 env S
  | .liveE l => loopE g b l (lenL S l + 1) 0 env S) N R E B B2 := rfl
@[simp ↓] theorem wq_compR (mi : MI) (g : MG) (tc : MT) (m : ME) (vs : List Nat) (env : En) (S : Sto) {Q : List D → Sto → Prop} : Res.wp (compR mi g tc m vs env S) Q E = Res.wp ((mi env S).bind fun it S => match it with
  | .items ds => compI g tc m (wipeE env vs) ds [] S
  | .live l => compL g tc m (wipeE env vs) l (lenL S l + 1) 0 [] S
  | .liveE l => compE g tc m (wipeE env vs) l (lenL S l + 1) 0 [] S) Q E := rfl
@[simp ↓] theorem wq_eComp (mi : MI) (g : MG) (tc : MT) (m : ME) (vs : List Nat) (env : En) (S : Sto) {Q : D → Sto → Prop} : Res.wp (eComp mi g tc m vs env S) Q E = Res.wp ((compR mi g tc m vs env S).bind fun ds S => .ok (.lst ds) S) Q E := rfl
@[simp ↓] theorem wq_eCompM (mi : MI) (g : MG) (tc : MT) (m : ME) (vs : List Nat) (env : En) (S : Sto) {Q : D → Sto → Prop} : Res.wp (eCompM mi g tc m vs env S) Q E = Res.wp ((compR mi g tc m vs env S).bind fun ds S => .ok (.loc S.length) (S ++ [.lst ds])) Q E := rfl
@[simp ↓] theorem wq_tYesM (x0 : En) (S : Sto) {Q : Bool → Sto → Prop} : Res.wp (tYesM  x0 S) Q E = Res.wp (.ok true S) Q E := rfl
@[simp ↓] theorem wq_chk (n : Nat) (m : MF) (ds : List D) (S : Sto) {Q : D → Sto → Prop} : Res.wp (chk n m ds S) Q E = Res.wp (if ds.length = n then m ds S else .stuck) Q E := rfl
@[simp ↓] theorem wq_eCall (n : Nat) (m : MF) (r : MA) (env : En) (S : Sto) {Q : D → Sto → Prop} : Res.wp (eCall n m r env S) Q E = Res.wp ((r env S).bind fun ds S => chk n m ds S) Q E := rfl
@[simp ↓] theorem wq_eMeth (cn nm : Str) (n : Nat) (m : MF) (ma : ME) (r : MA) (env : En) (S : Sto) {Q : D → Sto → Prop} : Res.wp (eMeth cn nm n m ma r env S) Q E = Res.wp ((ma env S).bind fun d S => match d with
  | .loc l => match S[l]? with
    | some (.ins C fs) => if C = cn ∧ (fs.map (·.1)).contains nm = false then (r env S).bind fun ds S => chk n m (.loc l :: ds) S else .stuck
    | _ => .stuck
  | _ => .stuck) Q E := rfl
@[simp ↓] theorem wq_eMake (cn : Str) (n : Nat) (mi : MF) (r : MA) (env : En) (S : Sto) {Q : D → Sto → Prop} : Res.wp (eMake cn n mi r env S) Q E = Res.wp ((r env S).bind fun ds S => (chk n mi (.loc S.length :: ds) (S ++ [.ins cn []])).bind fun d S' => match d with
  | .none => .ok (.loc S.length) S'
  | _ => .stuck) Q E := rfl
@[simp ↓] theorem wq_eFld (cn f : Str) (ma : ME) (env : En) (S : Sto) {Q : D → Sto → Prop} : Res.wp (eFld cn f ma env S) Q E = Res.wp ((ma env S).bind fun d S => match d with
  | .loc l => match S[l]? with
    | some (.ins C fs) => if C = cn then ofO S (fs.lookup f) else .stuck
    | _ => .stuck
  | _ => .stuck) Q E := rfl
@[simp ↓] theorem wq_sFldM (cn f : Str) (ma mv : ME) (env : En) (S : Sto) : RS.wp (sFldM cn f ma mv env S) N R E B B2 = RS.wp ((mv env S).rs env fun d S => (ma env S).rs env fun o S => match o with
  | .loc l => match S[l]? with
    | some (.ins C fs) => if C = cn ∧ fs.length < 1000 then .next env (S.set l (.ins C (putD f d fs))) else .stuck
    | _ => .stuck
  | _ => .stuck) N R E B B2 := rfl
@[simp ↓] theorem wq_eB (f : BF) (r : MA) (env : En) (S : Sto) {Q : D → Sto → Prop} : Res.wp (eB f r env S) Q E = Res.wp ((r env S).bind fun ds S => ofO S (f S ds)) Q E := rfl
@[simp ↓] theorem wq_eM (ok : Sto → D → Bool) (f : BM) (ma : ME) (r : MA) (env : En) (S : Sto) {Q : D → Sto → Prop} : Res.wp (eM ok f ma r env S) Q E = Res.wp ((ma env S).bind fun d S => if ok S d then (r env S).bind fun ds S => match f S d ds with
  | some p => .ok p.1 p.2
  | none => .stuck else .stuck) Q E := rfl
@[simp ↓] theorem wq_eRev (m : ME) (env : En) (S : Sto) {Q : D → Sto → Prop} : Res.wp (eRev m env S) Q E = Res.wp ((m env S).bind fun d S => match view S d with
  | .lst xs => .ok (.lst xs.reverse) S
  | _ => .stuck) Q E := rfl
@[simp ↓] theorem wq_eDictP (r : MA) (env : En) (S : Sto) {Q : D → Sto → Prop} : Res.wp (eDictP r env S) Q E = Res.wp ((r env S).bind fun ds S => match ds with
  | [.tpn xs] => match pairsOf xs with
    | some ps => if xs.length ≤ 1000000 then .ok (.loc S.length) (S ++ [.dct false (putAll [] ps)]) else .stuck
    | none => .stuck
  | _ => .stuck) Q E := rfl
@[simp ↓] theorem wq_eDComp (mi : MI) (g : MG) (tc : MT) (mk mv : ME) (vs : List Nat) (env : En) (S : Sto) {Q : D → Sto → Prop} : Res.wp (eDComp mi g tc mk mv vs env S) Q E = Res.wp ((mi env S).bind fun it S => match it with
  | .items ds => (compDI g tc mk mv (wipeE env vs) ds [] S).bind kD
  | .live _ => .stuck
  | .liveE _ => .stuck) Q E := rfl
@[simp ↓] theorem wq_sRaise (C : Str) (env : En) (S : Sto) : RS.wp (sRaise C env S) N R E B B2 = RS.wp (.exc ⟨C, []⟩ env S) N R E B B2 := rfl
@[simp ↓] theorem wq_eKind (hd : Str → Option D) (m : ME) (env : En) (S : Sto) {Q : D → Sto → Prop} : Res.wp (eKind hd m env S) Q E = Res.wp (kindM hd (m env S)) Q E := rfl
@[simp ↓] theorem wq_kD (kvs : List (D × D)) (S : Sto) {Q : D → Sto → Prop} : Res.wp (kD kvs S) Q E = Res.wp (.ok (.loc S.length) (S ++ [.dct false kvs])) Q E := rfl
end
end DL

set_option Elab.async false
set_option linter.all false
set_option maxRecDepth 100000
/-! DL24: orders of values. -/
namespace DL
open PySem PySem.Spec PyProof.Rows L2 LamX
def dlt (a b : D) : Bool := PySem.W.dataLt (pdF a) (pdF b)
def dltAll (xs ys : List D) : Bool := PySem.W.rowLt (pdFs xs) (pdFs ys)
def alk (a b : D) : Bool := PySem.W.alike (pdF a) (pdF b)
def alkAll (xs ys : List D) : Bool := PySem.W.alikeAll (pdFs xs) (pdFs ys)
theorem dle_dlt (a b : D) : dle a b = !dlt b a := rfl
@[simp] theorem alk_int (i j : Int) : alk (.int i) (.int j) = true := by simp [alk, pdF, PySem.W.alike]
@[simp] theorem alk_str (i j : Str) : alk (.str i) (.str j) = true := by simp [alk, pdF, PySem.W.alike]
@[simp] theorem alk_tup (i j : List D) : alk (.tup i) (.tup j) = alkAll i j := by simp [alk, alkAll, pdF, PySem.W.alike]
@[simp] theorem alk_tpn (i j : List D) : alk (.tpn i) (.tpn j) = alkAll i j := by simp [alk, alkAll, pdF, PySem.W.alike]
@[simp] theorem alk_lst (i j : List D) : alk (.lst i) (.lst j) = alkAll i j := by simp [alk, alkAll, pdF, PySem.W.alike]
@[simp] theorem alkAll_cons (x y : D) (i j : List D) : alkAll (x :: i) (y :: j) = (alk x y && alkAll i j) := by simp [alk, alkAll, pdFs, PySem.W.alikeAll]
@[simp] theorem alkAll_nil1 (j : List D) : alkAll [] j = true := by simp [alkAll, pdFs, PySem.W.alikeAll]
@[simp] theorem alkAll_nil2 (j : List D) : alkAll j [] = true := by cases j <;> simp [alkAll, pdFs, PySem.W.alikeAll]
@[simp] theorem dlt_int (i j : Int) : dlt (.int i) (.int j) = decide (i < j) := by unfold dlt pdF; rw [PySem.W.dataLt_int]
@[simp] theorem dlt_str (i j : Str) : dlt (.str i) (.str j) = decide (i.cps.toList < j.cps.toList) := by unfold dlt pdF; rw [PySem.W.dataLt_str]
@[simp] theorem dlt_tup (i j : List D) : dlt (.tup i) (.tup j) = dltAll i j := by unfold dlt pdF; rw [PySem.W.dataLt_tuple]; rfl
@[simp] theorem dlt_tpn (i j : List D) : dlt (.tpn i) (.tpn j) = dltAll i j := by unfold dlt pdF; rw [PySem.W.dataLt_tuple]; rfl
@[simp] theorem dlt_tp (i j : List D) : dlt (.tup i) (.tpn j) = dltAll i j := by unfold dlt pdF; rw [PySem.W.dataLt_tuple]; rfl
@[simp] theorem dlt_pt (i j : List D) : dlt (.tpn i) (.tup j) = dltAll i j := by unfold dlt pdF; rw [PySem.W.dataLt_tuple]; rfl
@[simp] theorem dltAll_nil : dltAll [] [] = false := by unfold dltAll PySem.W.rowLt; exact lex_irrefl _
theorem dltAll_cons {x y : D} (h : alk x y = true) (i j : List D) : dltAll (x :: i) (y :: j) = if peq x y = true then dltAll i j else dlt x y := by
  simp only [dltAll, PySem.W.rowLt, pdFs]
  exact PySem.W.dataLt_cons h _ _
@[simp] theorem dltAll_int (x y : Int) (i j : List D) : dltAll (.int x :: i) (.int y :: j) = if x = y then dltAll i j else decide (x < y) := by
  rw [dltAll_cons (by simp)]; simp
@[simp] theorem dltAll_str (x y : Str) (i j : List D) : dltAll (.str x :: i) (.str y :: j) = if x = y then dltAll i j else decide (x.cps.toList < y.cps.toList) := by
  rw [dltAll_cons (by simp)]; simp
/-- three numbers, the lesser ahead -/
def le3 (a b : Int × Int × Int) : Bool := decide (a.1 < b.1 ∨ (a.1 = b.1 ∧ (a.2.1 < b.2.1 ∨ (a.2.1 = b.2.1 ∧ a.2.2 ≤ b.2.2))))
def trD (t : Int × Int × Int) : D := .tup [.int t.1, .int t.2.1, .int t.2.2]
theorem dle_tr (a b : Int × Int × Int) : dle (trD a) (trD b) = le3 a b := by
  rw [dle_dlt, trD, trD, dlt_tup, dltAll_int, dltAll_int, dltAll_int, dltAll_nil, le3]
  rw [Bool.eq_iff_iff]
  by_cases h1 : b.1 = a.1
  · by_cases h2 : b.2.1 = a.2.1
    · by_cases h3 : b.2.2 = a.2.2
      · simp [h1, h2, h3]
      · simp [h1, h2, h3]
    · simp [h1, h2]; omega
  · simp [h1]; omega
theorem le3_total (a b : Int × Int × Int) : (le3 a b || le3 b a) = true := by
  simp [le3]; omega
theorem le3_trans {a b c : Int × Int × Int} (h : le3 a b = true) (h2 : le3 b c = true) : le3 a c = true := by
  simp [le3] at *; omega
/-- sorted(..) of tuples -/
theorem sorted_of {τ : Type} {S : Sto} {d : D} (xs : List τ) (f : τ → D) (le : τ → τ → Bool) (h : sortOf S d = some (xs.map f)) (hk : ∀ x, dok 60 (f x) = true) (ha : ∀ x y, alk (f x) (f y) = true) (hf : ∀ x, ∃ a l, f x = .tup (a :: l)) (hle : ∀ x y, dle (f x) (f y) = le x y) (hl : xs.length ≤ 1000000) : fSorted S [d] = some (.lst ((xs.mergeSort le).map f)) := by
  have h1 : sortOk (xs.map f) = true := by
    unfold sortOk
    simp only [Bool.and_eq_true, List.all_eq_true, List.mem_map, forall_exists_index, and_imp, forall_apply_eq_imp_iff₂, Bool.or_eq_true]
    exact ⟨⟨fun x _ => hk x, fun x _ y _ => ha x y⟩, .inl fun x _ => by obtain ⟨a, l, e⟩ := hf x; rw [e]⟩
  simp only [fSorted, h, h1, List.length_map, hl, and_self, if_true]
  rw [List.map_mergeSort (s := dle) fun a _ b _ => (hle a b).symm]
@[simp] theorem sortOf_lst (S : Sto) (xs : List D) : sortOf S (.lst xs) = some xs := rfl
theorem sortOf_loc {S : Sto} {l : Nat} {xs : List D} (h : S[l]? = some (.lst xs)) : sortOf S (.loc l) = some xs := by simp [sortOf, h]
end DL

set_option Elab.async false
set_option linter.all false
set_option maxRecDepth 100000
/-! DL31: locks, sorted by a key and comprehensions of two clauses under wp. -/
namespace DL
open PySem PySem.Spec PyProof.Rows L2 LamX
/-- the dict that is told by d -/
def kLock (S : Sto) (d : D) (f : Nat → Bool → List (D × D) → Prop) (_ : Dum f := .mk) (_ : True := trivial) : Prop := match d with
  | .loc l => match S[l]? with
    | some (.dct t kvs) => f l t kvs
    | _ => False
  | _ => False
theorem kLock_loc {S : Sto} {l : Nat} {t : Bool} {kvs : List (D × D)} {f : Nat → Bool → List (D × D) → Prop} (h : S[l]? = some (.dct t kvs)) : kLock S (.loc l) f = f l t kvs := by simp [kLock, h]
section
variable {N B C : En → Sto → Prop} {R : D → Sto → Prop} {E : XV → Sto → Prop} {Q : D → Sto → Prop}
@[simp ↓] theorem wq_eLock (ml mb : ME) (env : En) (S : Sto) : Res.wp (eLock ml mb env S) Q E = Res.wp (ml env S) (fun d _ => kLock S d fun l t kvs => Res.wp (mb env (S.set l (.fdc t kvs))) (fun d S' => Q d (S'.set l (.dct t kvs))) NoE) NoE := by
  unfold eLock
  cases ml env S with
  | exc _ _ => simp
  | stuck => simp
  | ok d S1 =>
    rw [wp_ok]
    cases d <;> simp only [kLock, wp_stuck]
    rename_i l
    cases S[l]? with
    | none => simp
    | some o =>
      cases o <;> simp only [wp_stuck]
      cases mb env _ <;> simp
@[simp ↓] theorem wq_sLock (ml : ME) (mb : MS) (env : En) (S : Sto) : RS.wp (sLock ml mb env S) N R E B C = Res.wp (ml env S) (fun d _ => kLock S d fun l t kvs => RS.wp (mb env (S.set l (.fdc t kvs))) (fun e S' => N e (S'.set l (.dct t kvs))) (fun d S' => R d (S'.set l (.dct t kvs))) NoE (fun e S' => B e (S'.set l (.dct t kvs))) (fun e S' => C e (S'.set l (.dct t kvs)))) NoE := by
  unfold sLock
  cases ml env S with
  | exc _ _ => simp
  | stuck => simp
  | ok d S1 =>
    rw [wp_ok]
    cases d <;> simp only [kLock, wpS_stuck]
    rename_i l
    cases S[l]? with
    | none => simp
    | some o =>
      cases o <;> simp only [wpS_stuck]
      cases mb env _ <;> simp
/-- the keys told by a function that changes nothing -/
theorem keysI_pure {τ : Type} {mk : ME} {i : Nat} {env : En} {S : Sto} {f k : τ → D} : ∀ (xs : List τ) (acc : List D), (∀ x ∈ xs, mk (env.set i (some (f x))) S = .ok (k x) S) → keysI mk i env (xs.map f) acc S = .ok (acc ++ xs.map k) S
  | [], acc, _ => by simp [keysI]
  | x :: xs, acc, h => by
    rw [List.map_cons]
    unfold keysI
    rw [h x List.mem_cons_self, bindS_ok, keysI_pure xs _ fun y hy => h y (List.mem_cons_of_mem _ hy)]
    simp
theorem merge_map {α β : Type} (r : β → β → Bool) (f : α → β) (l : List α) : (l.map f).mergeSort r = (l.mergeSort fun a b => r (f a) (f b)).map f := by
  rw [List.map_mergeSort (s := r) fun a _ b _ => rfl]
theorem byKeys_map {τ : Type} (f k : τ → D) (xs : List τ) (le : τ → τ → Bool) (h : ∀ x y, dle (k x) (k y) = le x y) : byKeys (xs.map f) (xs.map k) = (xs.mergeSort le).map f := by
  unfold byKeys
  have e : (xs.map f).zip (xs.map k) = xs.map fun x => (f x, k x) := by
    rw [List.zip_map, List.zip_eq_zipWith]
    simp [List.zipWith_self, List.map_map]
  rw [e, merge_map]
  simp only [List.map_map, h]
  rfl
/-- sorted(.., key=..) by a function that changes nothing -/
theorem sortKey_pure {τ : Type} {m mk : ME} {i : Nat} {env : En} {S S1 : Sto} {d : D} (xs : List τ) (f k : τ → D) (le : τ → τ → Bool) (hm : m env S = .ok d S1) (hs : sortOf S1 d = some (xs.map f)) (hk : ∀ x ∈ xs, mk (env.set i (some (f x))) S1 = .ok (k x) S1)
    (ho : sortOk (xs.map k) = true) (hl : xs.length ≤ 1000000) (hle : ∀ x y, dle (k x) (k y) = le x y) : eSortKey m i mk env S = .ok (.loc S1.length) (S1 ++ [.lst ((xs.mergeSort le).map f)]) := by
  unfold eSortKey
  rw [hm]
  simp only [Res.bind, hs]
  rw [keysI_pure xs [] hk, bindS_ok]
  simp only [List.nil_append, ho, List.length_map, hl, and_self, if_true, byKeys_map f k xs le hle]
/-- a walk told by turns that change nothing -/
theorem walkI_pure {τ : Type} {T : D → List D → Sto → Res (List D)} {f : τ → D} {S : Sto} {g : τ → List D} : ∀ (xs : List τ) (acc : List D), (acc ++ xs.flatMap g).length ≤ 1000000 → (∀ x ∈ xs, ∀ acc, (acc ++ g x).length ≤ 1000000 → T (f x) acc S = .ok (acc ++ g x) S) → walkI T (xs.map f) acc S = .ok (acc ++ xs.flatMap g) S
  | [], acc, _, _ => by simp [walkI]
  | x :: xs, acc, hl, h => by
    rw [List.map_cons]
    unfold walkI
    rw [h x List.mem_cons_self acc (by simp at hl ⊢; omega), bindS_ok, walkI_pure xs _ (by simpa using hl) fun y hy => h y (List.mem_cons_of_mem _ hy)]
    simp
theorem walkI_turnC {g : MG} {tc : MT} {m : ME} {w : En} : ∀ (ds acc : List D) (S : Sto), walkI (turnC g tc m w) ds acc S = compI g tc m w ds acc S
  | [], _, _ => rfl
  | d :: ds, acc, S => by
    unfold walkI compI
    congr
    funext acc S
    exact walkI_turnC ds acc S
theorem wp_walkI {τ : Type} {T : D → List D → Sto → Res (List D)} {f : τ → D} {ds : List D} {S : Sto} {Q : List D → Sto → Prop} (xs : List τ) (I : List τ → List τ → List D → Sto → Prop) (acc : List D) (e : ds = xs.map f) (h : I [] xs acc S)
    (step : ∀ pre x rest acc S, pre ++ x :: rest = xs → I pre (x :: rest) acc S → Res.wp (T (f x) acc S) (fun acc S => I (pre ++ [x]) rest acc S) NoE)
    (fin : ∀ acc S, I xs [] acc S → Q acc S) : Res.wp (walkI T ds acc S) Q E := by
  subst e
  have loop : ∀ (rest pre : List τ) (acc : List D) (S : Sto), pre ++ rest = xs → I pre rest acc S → Res.wp (walkI T (rest.map f) acc S) Q E := by
    intro rest
    induction rest with
    | nil =>
      intro pre acc S e h
      rw [List.append_nil] at e
      rw [e] at h
      show Res.wp (.ok acc S) Q E
      rw [wp_ok]
      exact fin acc S h
    | cons x rest ih =>
      intro pre acc S e h
      have ht := step pre x rest acc S e h
      rw [List.map_cons]
      unfold walkI
      generalize T (f x) acc S = y at ht
      cases y with
      | exc _ _ => simp at ht
      | stuck => simp at ht
      | ok c S1 =>
        rw [wp_ok] at ht
        rw [bindS_ok]
        exact ih (pre ++ [x]) c S1 (by rw [← e]; simp) ht
  exact loop xs [] acc S rfl h
end
@[simp ↓] theorem wq_eSortKey (m : ME) (i : Nat) (mk : ME) (env : En) (S : Sto) {Q : D → Sto → Prop} {E : XV → Sto → Prop} : Res.wp (eSortKey m i mk env S) Q E = Res.wp ((m env S).bind fun d S => match sortOf S d with
  | some xs => (keysI mk i env xs [] S).bindS fun ks S => if sortOk ks = true ∧ xs.length ≤ 1000000 then .ok (.loc S.length) (S ++ [.lst (byKeys xs ks)]) else .stuck
  | none => .stuck) Q E := rfl
@[simp ↓] theorem wp_bindS {α β : Type} {r : Res β} {f : β → Sto → Res α} {Q : α → Sto → Prop} {E : XV → Sto → Prop} : Res.wp (r.bindS f) Q E = Res.wp r (fun a S => Res.wp (f a S) Q E) NoE := by cases r <;> simp [Res.bindS]
theorem eComp2_items {mi : MI} {g : MG} {tc : MT} {mi1 : MI} {g1 : MG} {tc1 : MT} {m : ME} {vs vs1 : List Nat} {env : En} {S S1 : Sto} {ds : List D} {Q : D → Sto → Prop} {E : XV → Sto → Prop} (h : mi env S = .ok (.items ds) S1) : Res.wp (eComp2 mi g tc mi1 g1 tc1 m vs vs1 env S) Q E = Res.wp (walkI (turn2 g tc mi1 g1 tc1 m vs1 (wipeE env vs)) ds [] S1) (fun ds S => Q (.lst ds) S) E := by
  unfold eComp2 comp2R
  rw [h]
  show Res.wp (Res.bind (walkI _ ds [] S1) _) Q E = _
  rw [wp_bind]
  have e : (fun (ds : List D) (S : Sto) => Res.wp (.ok (.lst ds) S) Q E) = fun ds S => Q (.lst ds) S := by funext ds S; rw [wp_ok]
  exact congrArg (fun q : List D → Sto → Prop => Res.wp (walkI (turn2 g tc mi1 g1 tc1 m vs1 (wipeE env vs)) ds [] S1) q E) e
end DL

set_option Elab.async false
set_option linter.all false
set_option maxRecDepth 100000
/-! DL34: walks over a list in the store that stays as it is. -/
namespace DL
open PySem PySem.Spec PyProof.Rows L2 LamX
section
variable {α β : Type} {N B C : En → Sto → Prop} {R : D → Sto → Prop} {E : XV → Sto → Prop} {S : Sto} {env : En}
theorem wp_live {τ : Type} {g : MG} {b : MS} {f : τ → D} {l : Nat} (xs : List τ) (I : List τ → List τ → En → Sto → Prop) (keep : ∀ pre rest env S, pre ++ rest = xs → I pre rest env S → S[l]? = some (.lst (xs.map f))) (h : I [] xs env S)
    (step : ∀ pre x rest env S, pre ++ x :: rest = xs → I pre (x :: rest) env S → ∃ p, g (f x) env S = some p ∧ RS.wp (b p.1 p.2) (I (pre ++ [x]) rest) R E N (I (pre ++ [x]) rest))
    (fin : ∀ env S, I xs [] env S → N env S) : RS.wp (loopL g b l (lenL S l + 1) 0 env S) N R E B C := by
  have hlen : lenL S l = xs.length := by
    have := keep [] xs env S rfl h
    simp [lenL, this]
  rw [hlen]
  have loop : ∀ (rest pre : List τ) (env : En) (S : Sto), pre ++ rest = xs → I pre rest env S → RS.wp (loopL g b l (rest.length + 1) pre.length env S) N R E B C := by
    intro rest
    induction rest with
    | nil =>
      intro pre env S e h
      have hk := keep pre [] env S e h
      rw [List.append_nil] at e
      unfold loopL
      simp only [hk]
      rw [show (xs.map f)[pre.length]? = none by rw [← e]; simp]
      simp only [wpS_next]
      rw [e] at h
      exact fin env S h
    | cons x rest ih =>
      intro pre env S e h
      have hk := keep pre (x :: rest) env S e h
      obtain ⟨p, e1, hb⟩ := step pre x rest env S e h
      rw [List.length_cons]
      unfold loopL
      simp only [hk]
      rw [show (xs.map f)[pre.length]? = some (f x) by rw [← e]; simp]
      simp only [e1]
      have hl : (pre ++ [x]).length = pre.length + 1 := by simp
      generalize b p.1 p.2 = y at hb
      cases y with
      | next e' S' => rw [wpS_next] at hb; simpa only [hl] using ih (pre ++ [x]) e' S' (by rw [← e]; simp) hb
      | cont e' S' => rw [wpS_cont] at hb; simpa only [hl] using ih (pre ++ [x]) e' S' (by rw [← e]; simp) hb
      | brk e' S' => simpa using hb
      | ret d S' => simpa using hb
      | exc x e' S' => simpa using hb
      | stuck => simpa using hb
  exact loop xs [] env S rfl h
/-- a comprehension over it, by what changes nothing -/
theorem compL_pure {τ : Type} {g : MG} {tc : MT} {m : ME} {w : En} {f : τ → D} {S : Sto} {l : Nat} (xs : List τ) (p : τ → Bool) (v : τ → D) (hl : xs.length ≤ 1000000) (hS : S[l]? = some (.lst (xs.map f)))
    (hx : ∀ x ∈ xs, ∃ e, g (f x) w S = some (e, S) ∧ tc e S = .ok (p x) S ∧ (p x = true → m e S = .ok (v x) S)) : compL g tc m w l (lenL S l + 1) 0 [] S = .ok ((xs.filter p).map v) S := by
  have hlen : lenL S l = xs.length := by simp [lenL, hS]
  rw [hlen]
  have loop : ∀ (rest pre : List τ) (acc : List D), pre ++ rest = xs → acc.length + rest.length ≤ 1000000 → compL g tc m w l (rest.length + 1) pre.length acc S = .ok (acc ++ (rest.filter p).map v) S := by
    intro rest
    induction rest with
    | nil =>
      intro pre acc e _
      rw [List.append_nil] at e
      subst e
      unfold compL
      simp only [hS]
      rw [show (pre.map f)[pre.length]? = none by simp]
      simp
    | cons x rest ih =>
      intro pre acc e hl
      obtain ⟨e', e1, e2, e3⟩ := hx x (by rw [← e]; simp)
      rw [List.length_cons] at hl ⊢
      unfold compL
      simp only [hS]
      rw [show (xs.map f)[pre.length]? = some (f x) by rw [← e]; simp]
      have hl2 : (pre ++ [x]).length = pre.length + 1 := by simp
      unfold turnC
      simp only [e1, e2, bindS_ok]
      cases hp : p x with
      | false =>
        simp only [Bool.false_eq_true, if_false, bindS_ok]
        have := ih (pre ++ [x]) acc (by rw [← e]; simp) (by omega)
        rw [hl2] at this
        rw [this]
        simp [hp]
      | true =>
        have ha : acc.length < 1000000 := by omega
        simp only [if_true, e3 hp, bindS_ok, ha]
        have := ih (pre ++ [x]) (acc ++ [v x]) (by rw [← e]; simp) (by simp; omega)
        rw [hl2] at this
        rw [this]
        simp [hp]
  exact (loop xs [] [] rfl (by simpa using hl)).trans (by simp)
end
theorem wp_compL_pure {τ : Type} {g : MG} {tc : MT} {m : ME} {w : En} {f : τ → D} {S : Sto} {l : Nat} {Q : List D → Sto → Prop} {E : XV → Sto → Prop} (xs : List τ) (p : τ → Bool) (v : τ → D) (hl : xs.length ≤ 1000000) (hS : S[l]? = some (.lst (xs.map f)))
    (hx : ∀ x ∈ xs, ∃ e, g (f x) w S = some (e, S) ∧ tc e S = .ok (p x) S ∧ (p x = true → m e S = .ok (v x) S)) (q : Q ((xs.filter p).map v) S) : Res.wp (compL g tc m w l (lenL S l + 1) 0 [] S) Q E := by
  rw [compL_pure xs p v hl hS hx, wp_ok]; exact q
/-! the newer combinators under wp, and computed -/
section
variable {Q : D → Sto → Prop} {E : XV → Sto → Prop}
@[simp ↓] theorem wq_eGet (md mk mz : ME) (env : En) (S : Sto) : Res.wp (eGet md mk mz env S) Q E = Res.wp ((md env S).bind fun d S => if isD S d = true then (mk env S).bind fun k S => (mz env S).bind fun z S => ofO S (dGetD S d k z) else .stuck) Q E := rfl
@[simp] theorem eGet_at (md mk mz : ME) (env : En) (S : Sto) : eGet md mk mz env S = ((md env S).bind fun d S => if isD S d = true then (mk env S).bind fun k S => (mz env S).bind fun z S => ofO S (dGetD S d k z) else .stuck) := rfl
/-- what setdefault does at last -/
def kSetd (l : Nat) (k z : D) (S : Sto) : Res D := match S[l]? with
    | some (.dct false kvs) => if keyOk false k = true ∧ kvs.length < 1000000 then (match dLook false kvs k with
      | some v => .ok v S
      | none => .ok z (S.set l (.dct false (dPut false kvs k z)))) else .stuck
    | _ => .stuck
def kSetD (d k z : D) (S : Sto) : Res D := match d with
  | .loc l => kSetd l k z S
  | _ => .stuck
@[simp] theorem kSetD_loc (l : Nat) (k z : D) (S : Sto) : kSetD (.loc l) k z S = kSetd l k z S := rfl
theorem kSetd_old {l : Nat} {k z v : D} {S : Sto} {kvs : List (D × D)} (h : S[l]? = some (.dct false kvs)) (hk : keyOk false k = true) (hl : kvs.length < 1000000) (hv : dLook false kvs k = some v) : kSetd l k z S = .ok v S := by
  simp [kSetd, h, hk, hl, hv]
theorem kSetd_new {l : Nat} {k z : D} {S : Sto} {kvs : List (D × D)} (h : S[l]? = some (.dct false kvs)) (hk : keyOk false k = true) (hl : kvs.length < 1000000) (hv : dLook false kvs k = none) : kSetd l k z S = .ok z (S.set l (.dct false (dPut false kvs k z))) := by
  simp [kSetd, h, hk, hl, hv]
theorem eSetd_eq (md mk mz : ME) (env : En) (S : Sto) : eSetd md mk mz env S = ((md env S).bind fun d S => if isD S d = true then (mk env S).bind fun k S => (mz env S).bind fun z S => kSetD d k z S else .stuck) := rfl
@[simp ↓] theorem wq_eSetd (md mk mz : ME) (env : En) (S : Sto) : Res.wp (eSetd md mk mz env S) Q E = Res.wp ((md env S).bind fun d S => if isD S d = true then (mk env S).bind fun k S => (mz env S).bind fun z S => kSetD d k z S else .stuck) Q E := by rw [eSetd_eq]
@[simp ↓] theorem wq_eCallD (n : Nat) (d : D) (m : MF) (r : MA) (env : En) (S : Sto) : Res.wp (eCallD n d m r env S) Q E = Res.wp ((r env S).bind fun ds S => chk n m (ds ++ [d]) S) Q E := rfl
@[simp ↓] theorem wq_eCallK (n k : Nat) (m : MF) (r rk : MA) (env : En) (S : Sto) : Res.wp (eCallK n k m r rk env S) Q E = Res.wp ((r env S).bind fun ds S => (rk env S).bind fun zs S => if ds.length = k then chk n m (ds ++ zs) S else .stuck) Q E := rfl
@[simp] theorem eCallD_at (n : Nat) (d : D) (m : MF) (r : MA) (env : En) (S : Sto) : eCallD n d m r env S = ((r env S).bind fun ds S => chk n m (ds ++ [d]) S) := rfl
@[simp] theorem eCallK_at (n k : Nat) (m : MF) (r rk : MA) (env : En) (S : Sto) : eCallK n k m r rk env S = ((r env S).bind fun ds S => (rk env S).bind fun zs S => if ds.length = k then chk n m (ds ++ zs) S else .stuck) := rfl
end
@[simp] theorem sPar3_at (i j l : Nat) (r : MA) (env : En) (S : Sto) : sPar3 i j l r env S = (r env S).rs env fun ds S => match ds with
  | [a, b, c] => .next (((env.set i (some a)).set j (some b)).set l (some c)) S
  | _ => .stuck := rfl
@[simp ↓] theorem wq_sPar3 (i j l : Nat) (r : MA) (env : En) (S : Sto) {N B C : En → Sto → Prop} {R : D → Sto → Prop} {E : XV → Sto → Prop} : RS.wp (sPar3 i j l r env S) N R E B C = RS.wp ((r env S).rs env fun ds S => match ds with
  | [a, b, c] => .next (((env.set i (some a)).set j (some b)).set l (some c)) S
  | _ => .stuck) N R E B C := rfl
@[simp] theorem isD_loc (S : Sto) (l : Nat) : isD S (.loc l) = (dctOf S[l]?).isSome := rfl
theorem dGetD_of {S : Sto} {l : Nat} {t : Bool} {kvs : List (D × D)} {k z : D} (h : dctOf S[l]? = some (t, kvs)) : dGetD S (.loc l) k z = if keyOk t k = true then some ((dLook t kvs k).getD z) else none := by simp [dGetD, h]
theorem get_at {α : Type} (S X : List α) (k : Nat) : (S ++ X)[S.length + k]? = X[k]? := by
  rw [List.getElem?_append_right (by omega)]
  congr 1; omega
theorem set_at {α : Type} (S X : List α) (k : Nat) (v : α) : (S ++ X).set (S.length + k) v = S ++ X.set k v := by
  rw [List.set_append_right _ _ (by omega)]
  congr 2; omega
theorem get_at0 {α : Type} (S X : List α) : (S ++ X)[S.length]? = X[0]? := get_at S X 0
theorem set_at0 {α : Type} (S X : List α) (v : α) : (S ++ X).set S.length v = S ++ X.set 0 v := set_at S X 0 v
end DL

set_option Elab.async false
set_option linter.all false
set_option maxRecDepth 100000
/-! DL40: lists that stand anywhere; walks over them, with their places too. -/
namespace DL
open PySem PySem.Spec PyProof.Rows L2 LamX
/-- a list, told by itself or as it stands in the store -/
def LV (S : Sto) (v : D) (xs : List D) : Prop := v = .lst xs ∨ ∃ l, v = .loc l ∧ S[l]? = some (.lst xs)
section
variable {S : Sto} {v : D} {xs : List D}
theorem LV.lst : LV S (.lst xs) xs := .inl rfl
theorem LV.loc {l : Nat} (h : S[l]? = some (.lst xs)) : LV S (.loc l) xs := .inr ⟨l, rfl, h⟩
theorem LV.app (h : LV S v xs) (U : Sto) : LV (S ++ U) v xs := by
  rcases h with h | ⟨l, h, e⟩
  · exact .inl h
  · exact .inr ⟨l, h, by rw [List.getElem?_append_left (List.getElem?_eq_some_iff.mp e).1]; exact e⟩
theorem LV.view0 (h : LV S v xs) : view0 S v = .lst xs := by
  rcases h with rfl | ⟨l, rfl, e⟩
  · rfl
  · simp [e]
theorem LV.view (h : LV S v xs) : view S v = .lst xs := by
  unfold DL.view
  rw [h.view0]; rfl
theorem LV.ix (h : LV S v xs) (i : Int) : fIx S v (.int i) = atI xs i := by
  rcases h with rfl | ⟨l, rfl, e⟩
  · rfl
  · exact fIx_loc e i
theorem LV.len (h : LV S v xs) : fLen S [v] = some (.int xs.length) := by
  rcases h with rfl | ⟨l, rfl, e⟩
  · rfl
  · exact fLen_loc e
theorem LV.ty (h : LV S v xs) : tyOf S v = some "list" := by
  rcases h with rfl | ⟨l, rfl, e⟩
  · rfl
  · simp [tyOf, e]
end
section
variable {α β : Type} {N B C : En → Sto → Prop} {R : D → Sto → Prop} {E : XV → Sto → Prop} {S : Sto} {env : En}
theorem wp_liveE {τ : Type} {g : MG} {b : MS} {f : τ → D} {l : Nat} (xs : List τ) (I : List τ → List τ → En → Sto → Prop) (keep : ∀ pre rest env S, pre ++ rest = xs → I pre rest env S → S[l]? = some (.lst (xs.map f))) (h : I [] xs env S)
    (step : ∀ pre x rest env S, pre ++ x :: rest = xs → I pre (x :: rest) env S → ∃ p, g (.tup [.int (pre.length : Nat), f x]) env S = some p ∧ RS.wp (b p.1 p.2) (I (pre ++ [x]) rest) R E N (I (pre ++ [x]) rest))
    (fin : ∀ env S, I xs [] env S → N env S) : RS.wp (loopE g b l (lenL S l + 1) 0 env S) N R E B C := by
  have hlen : lenL S l = xs.length := by
    have := keep [] xs env S rfl h
    simp [lenL, this]
  rw [hlen]
  have loop : ∀ (rest pre : List τ) (env : En) (S : Sto), pre ++ rest = xs → I pre rest env S → RS.wp (loopE g b l (rest.length + 1) pre.length env S) N R E B C := by
    intro rest
    induction rest with
    | nil =>
      intro pre env S e h
      have hk := keep pre [] env S e h
      rw [List.append_nil] at e
      unfold loopE
      simp only [hk]
      rw [show (xs.map f)[pre.length]? = none by rw [← e]; simp]
      simp only [wpS_next]
      rw [e] at h
      exact fin env S h
    | cons x rest ih =>
      intro pre env S e h
      have hk := keep pre (x :: rest) env S e h
      obtain ⟨p, e1, hb⟩ := step pre x rest env S e h
      rw [List.length_cons]
      unfold loopE
      simp only [hk]
      rw [show (xs.map f)[pre.length]? = some (f x) by rw [← e]; simp]
      simp only [e1]
      have hl : (pre ++ [x]).length = pre.length + 1 := by simp
      generalize b p.1 p.2 = y at hb
      cases y with
      | next e' S' => rw [wpS_next] at hb; simpa only [hl] using ih (pre ++ [x]) e' S' (by rw [← e]; simp) hb
      | cont e' S' => rw [wpS_cont] at hb; simpa only [hl] using ih (pre ++ [x]) e' S' (by rw [← e]; simp) hb
      | brk e' S' => simpa using hb
      | ret d S' => simpa using hb
      | exc x e' S' => simpa using hb
      | stuck => simpa using hb
  exact loop xs [] env S rfl h
/-- with their places, the first one n -/
theorem enumD_map {τ : Type} (f : τ → D) : ∀ (xs : List τ) (n : Nat), enumD n (xs.map f) = (xs.zipIdx n).map fun p => .tup [.int (p.2 : Nat), f p.1]
  | [], _ => rfl
  | x :: xs, n => by
    rw [List.map_cons, List.zipIdx_cons, List.map_cons, ← enumD_map f xs (n + 1)]
    rfl
theorem wp_enumI {τ : Type} {g : MG} {b : MS} {f : τ → D} (I : List τ → List τ → En → Sto → Prop) {xs : List τ}
    (step : ∀ pre x rest env S, pre ++ x :: rest = xs → I pre (x :: rest) env S → ∃ p, g (.tup [.int (pre.length : Nat), f x]) env S = some p ∧ RS.wp (b p.1 p.2) (I (pre ++ [x]) rest) R E N (I (pre ++ [x]) rest))
    (fin : ∀ env S, I xs [] env S → N env S) : ∀ (rest pre : List τ) (env : En) (S : Sto), pre ++ rest = xs → I pre rest env S → RS.wp (loopI g b (enumD pre.length (rest.map f)) env S) N R E B C
  | [], pre, env, S, e, h => by
    rw [List.append_nil] at e
    rw [e] at h
    show RS.wp (.next env S) N R E B C
    rw [wpS_next]
    exact fin env S h
  | x :: rest, pre, env, S, e, h => by
    obtain ⟨p, e1, hb⟩ := step pre x rest env S e h
    have hl : (pre ++ [x]).length = pre.length + 1 := by simp
    show RS.wp (match g (.tup [.int (pre.length : Nat), f x]) env S with
    | none => .stuck
    | some p => match b p.1 p.2 with
      | .next env S => loopI g b (enumD (pre.length + 1) (rest.map f)) env S
      | .cont env S => loopI g b (enumD (pre.length + 1) (rest.map f)) env S
      | .brk env S => .next env S
      | .ret d S => .ret d S
      | .exc e env S => .exc e env S
      | .stuck => .stuck) N R E B C
    simp only [e1]
    generalize b p.1 p.2 = y at hb
    cases y with
    | next e' S' => rw [wpS_next] at hb; simpa only [hl] using wp_enumI I step fin rest (pre ++ [x]) e' S' (by rw [← e]; simp) hb
    | cont e' S' => rw [wpS_cont] at hb; simpa only [hl] using wp_enumI I step fin rest (pre ++ [x]) e' S' (by rw [← e]; simp) hb
    | brk e' S' => simpa using hb
    | ret d S' => simpa using hb
    | exc x e' S' => simpa using hb
    | stuck => simpa using hb
/-- for x in v -/
theorem wp_for_LV {τ : Type} {m : ME} {v : D} {g : MG} {b : MS} {f : τ → D} (xs : List τ) (I : List τ → List τ → En → Sto → Prop) (hm : m env S = .ok v S) (hv : LV S v (xs.map f)) (keep : ∀ pre rest env S, pre ++ rest = xs → I pre rest env S → LV S v (xs.map f)) (h : I [] xs env S)
    (step : ∀ pre x rest env S, pre ++ x :: rest = xs → I pre (x :: rest) env S → ∃ p, g (f x) env S = some p ∧ RS.wp (b p.1 p.2) (I (pre ++ [x]) rest) R E N (I (pre ++ [x]) rest))
    (fin : ∀ env S, I xs [] env S → N env S) : RS.wp (sFor (iAny m) g b env S) N R E B C := by
  rcases hv with rfl | ⟨l, rfl, e⟩
  · have : iAny m env S = .ok (.items (xs.map f)) S := by simp [hm]
    unfold sFor
    rw [this]
    show RS.wp (loopI g b (xs.map f) env S) N R E B C
    exact wp_for xs I rfl h step fin
  · have : iAny m env S = .ok (.live l) S := by simp [hm, iterD, e]
    unfold sFor
    rw [this]
    show RS.wp (loopL g b l (lenL S l + 1) 0 env S) N R E B C
    refine wp_live xs I (fun pre rest env S hp hI => ?_) h step fin
    rcases keep pre rest env S hp hI with z | ⟨l', z, e'⟩
    · cases z
    · cases z; exact e'
/-- for i, x in enumerate(v) -/
theorem wp_forE_LV {τ : Type} {r : MA} {v : D} {g : MG} {b : MS} {f : τ → D} (xs : List τ) (I : List τ → List τ → En → Sto → Prop) (hm : r env S = .ok [v] S) (hv : LV S v (xs.map f)) (keep : ∀ pre rest env S, pre ++ rest = xs → I pre rest env S → LV S v (xs.map f)) (h : I [] xs env S)
    (step : ∀ pre x rest env S, pre ++ x :: rest = xs → I pre (x :: rest) env S → ∃ p, g (.tup [.int (pre.length : Nat), f x]) env S = some p ∧ RS.wp (b p.1 p.2) (I (pre ++ [x]) rest) R E N (I (pre ++ [x]) rest))
    (fin : ∀ env S, I xs [] env S → N env S) : RS.wp (sFor (iEnumD r) g b env S) N R E B C := by
  rcases hv with rfl | ⟨l, rfl, e⟩
  · have : iEnumD r env S = .ok (.items (enumD 0 (xs.map f))) S := by simp [hm]
    unfold sFor
    rw [this]
    show RS.wp (loopI g b (enumD 0 (xs.map f)) env S) N R E B C
    exact wp_enumI I step fin xs [] env S rfl h
  · have : iEnumD r env S = .ok (.liveE l) S := by
      simp only [iEnumD_at, hm, Res.bind, List.map_cons, List.map_nil]
      show (match S[l]? with | some (.lst _) => Res.ok (ItD.liveE l) S | _ => .stuck) = _
      rw [e]
    unfold sFor
    rw [this]
    show RS.wp (loopE g b l (lenL S l + 1) 0 env S) N R E B C
    refine wp_liveE xs I (fun pre rest env S hp hI => ?_) h step fin
    rcases keep pre rest env S hp hI with z | ⟨l', z, e'⟩
    · cases z
    · cases z; exact e'
end
/-- a comprehension with the places of a list in the store, by what changes nothing -/
theorem compE_pure {τ : Type} {g : MG} {tc : MT} {m : ME} {w : En} {f : τ → D} {S : Sto} {l : Nat} (xs : List τ) (p : τ × Nat → Bool) (v : τ × Nat → D) (hl : xs.length ≤ 1000000) (hS : S[l]? = some (.lst (xs.map f)))
    (hx : ∀ x i, xs[i]? = some x → ∃ e, g (.tup [.int (i : Nat), f x]) w S = some (e, S) ∧ tc e S = .ok (p (x, i)) S ∧ (p (x, i) = true → m e S = .ok (v (x, i)) S)) : compE g tc m w l (lenL S l + 1) 0 [] S = .ok ((xs.zipIdx.filter p).map v) S := by
  have hlen : lenL S l = xs.length := by simp [lenL, hS]
  rw [hlen]
  have loop : ∀ (rest pre : List τ) (acc : List D), pre ++ rest = xs → acc.length + rest.length ≤ 1000000 → compE g tc m w l (rest.length + 1) pre.length acc S = .ok (acc ++ ((rest.zipIdx pre.length).filter p).map v) S := by
    intro rest
    induction rest with
    | nil =>
      intro pre acc e _
      rw [List.append_nil] at e
      unfold compE
      simp only [hS]
      rw [show (xs.map f)[pre.length]? = none by rw [← e]; simp]
      simp
    | cons x rest ih =>
      intro pre acc e hl
      have hxi : xs[pre.length]? = some x := by rw [← e]; simp
      obtain ⟨e1, h1, h2, h3⟩ := hx x pre.length hxi
      rw [List.length_cons]
      unfold compE
      simp only [hS]
      rw [show (xs.map f)[pre.length]? = some (f x) by rw [← e]; simp]
      have hl2 : (pre ++ [x]).length = pre.length + 1 := by simp
      rw [List.length_cons] at hl
      rw [List.zipIdx_cons]
      unfold turnC
      simp only [h1, h2, Res.bindS]
      cases hp : p (x, pre.length) with
      | false =>
        have := ih (pre ++ [x]) acc (by rw [← e]; simp) (by omega)
        rw [hl2] at this
        simp only [Bool.false_eq_true, if_false]
        rw [List.filter_cons_of_neg (by simp [hp])]
        exact this
      | true =>
        have := ih (pre ++ [x]) (acc ++ [v (x, pre.length)]) (by rw [← e]; simp) (by simp; omega)
        rw [hl2] at this
        simp only [if_true, h3 hp, show acc.length < 1000000 by omega]
        rw [List.filter_cons_of_pos hp, this, List.append_assoc]
        rfl
  have := loop xs [] [] rfl (by simpa using hl)
  simpa using this
end DL

set_option Elab.async false
set_option linter.all false
set_option maxRecDepth 100000
/-! N0: nets and rides as plain data. -/
namespace DL
open PySem PySem.Spec PyProof.Rows L2 LamX
def dayD (b : Bool) (l : List Int) : D := if b then .tpn (l.map .int) else .tup (l.map .int)
structure Leg where
  num : Int
  start : Str
  goal : Str
  out : Int
  long : Int
  db : Bool
  days : List Int
  fare : Int
  deriving Inhabited
def Leg.d (l : Leg) : D := .tup [.int l.num, .str l.start, .str l.goal, .int l.out, .int l.long, dayD l.db l.days, .int l.fare]
abbrev Ride := Int × Int
def rideD (r : Ride) : D := .tup [.int r.1, .int r.2]
structure LegOk (names : List Str) (l : Leg) : Prop where
  num : 1 ≤ l.num ∧ l.num ≤ 9999
  s : l.start ∈ names
  g : l.goal ∈ names
  ne : l.start ≠ l.goal
  out : 0 ≤ l.out ∧ l.out < 1440
  long : 20 ≤ l.long ∧ l.long ≤ 900
  dne : l.days ≠ []
  dlt : l.days.Pairwise (· < ·)
  dbd : ∀ d ∈ l.days, 0 ≤ d ∧ d ≤ 6
  fare : 1 ≤ l.fare ∧ l.fare ≤ 100000
  odd : l.num ≠ 99 ∧ l.num ≠ 9999
def six : List Str := ["aba", "bcd", "cad", "dub", "eli", "fra"]
def placeD (p : Str × Int) : D := .tup [.str p.1, .int p.2]
def netD (ps : List (Str × Int)) (ls : List Leg) : D := .tup [.tpn (ps.map placeD), .tpn (ls.map Leg.d)]
structure NetOk (ps : List (Str × Int)) (ls : List Leg) : Prop where
  names : ∃ n, 2 ≤ n ∧ n ≤ 6 ∧ ps.map (·.1) = six.take n
  ch : ∀ p ∈ ps, 10 ≤ p.2 ∧ p.2 ≤ 300
  legs : ∀ l ∈ ls, LegOk (ps.map (·.1)) l
  nd : (ls.map (·.num)).Nodup
  ne : ls ≠ []
  len : ls.length ≤ 60
  few : ls.length ≤ 28
theorem rideEnc : Enc 1 rideD := by
  have := Enc.pair Enc.int Enc.int
  exact this
theorem rides_tup : Enc 2 fun rs : List Ride => D.tup (rs.map rideD) := rideEnc.tup
@[simp] theorem dayD_vt (b : Bool) (l : List Int) : vt (dayD b l) = .tup (l.map .int) := by cases b <;> rfl
@[simp] theorem dayD_view (S : Sto) (b : Bool) (l : List Int) : view S (dayD b l) = .tup (l.map .int) := by cases b <;> rfl
/-- a leg by its number -/
def legOf (ls : List Leg) (n : Int) : Leg := (ls.find? fun l => l.num == n).getD default
def HasLeg (ls : List Leg) (n : Int) : Prop := ∃ l ∈ ls, l.num = n
theorem legOf_find {ls : List Leg} {n : Int} (h : HasLeg ls n) : (ls.find? fun l => l.num == n) = some (legOf ls n) := by
  obtain ⟨l, hl, e⟩ := h
  unfold legOf
  cases hf : ls.find? (fun l => l.num == n) with
  | none => exact absurd (List.find?_eq_none.mp hf l hl) (by simp [e])
  | some a => rfl
theorem legOf_mem {ls : List Leg} {n : Int} (h : HasLeg ls n) : legOf ls n ∈ ls := List.mem_of_find?_eq_some (legOf_find h)
theorem legOf_num {ls : List Leg} {n : Int} (h : HasLeg ls n) : (legOf ls n).num = n := by
  have := List.find?_some (legOf_find h)
  simpa using this
theorem HasLeg.of {ls : List Leg} {l : Leg} (h : l ∈ ls) : HasLeg ls l.num := ⟨l, h, rfl⟩
theorem legOf_eq {ls : List Leg} (nd : (ls.map (·.num)).Nodup) {l : Leg} (h : l ∈ ls) : legOf ls l.num = l := by
  induction ls with
  | nil => cases h
  | cons a ls ih =>
    unfold legOf
    rw [List.find?_cons]
    rw [List.map_cons, List.nodup_cons] at nd
    by_cases e : a.num = l.num
    · rcases List.mem_cons.mp h with rfl | h
      · simp
      · exact absurd (List.mem_map.mpr ⟨l, h, e.symm⟩) nd.1
    · rcases List.mem_cons.mp h with rfl | h
      · exact absurd rfl e
      · have e' : (a.num == l.num) = false := by simpa using e
        rw [e']
        exact ih nd.2 h
/-- the legs with a number: just that one -/
theorem legs_with {ls : List Leg} (nd : (ls.map (·.num)).Nodup) {n : Int} (h : HasLeg ls n) : ls.filter (fun l => decide (l.num = n)) = [legOf ls n] := by
  obtain ⟨l, hl, rfl⟩ := h
  rw [legOf_eq nd hl]
  induction ls with
  | nil => cases hl
  | cons a ls ih =>
    rw [List.map_cons, List.nodup_cons] at nd
    rcases List.mem_cons.mp hl with rfl | hl
    · rw [List.filter_cons_of_pos (by simp)]
      congr 1
      rw [List.filter_eq_nil_iff]
      intro b hb
      simp only [decide_eq_true_eq]
      exact fun z => nd.1 (List.mem_map.mpr ⟨b, hb, z⟩)
    · rw [List.filter_cons_of_neg]
      · exact ih nd.2 hl
      · simp only [decide_eq_true_eq]
        exact fun z => nd.1 (List.mem_map.mpr ⟨l, hl, z.symm⟩)
def rStart (ls : List Leg) (r : Ride) : Str := (legOf ls r.2).start
def rGoal (ls : List Leg) (r : Ride) : Str := (legOf ls r.2).goal
def rLong (ls : List Leg) (r : Ride) : Int := (legOf ls r.2).long
def rLeave (ls : List Leg) (r : Ride) : Int := r.1 * 1440 + (legOf ls r.2).out
def rArrive (ls : List Leg) (r : Ride) : Int := rLeave ls r + rLong ls r
/-- what goes on a day -/
def rGoes (ls : List Leg) (r : Ride) : Prop := 0 ≤ r.1 ∧ r.1 ≤ 60 ∧ HasLeg ls r.2 ∧ r.1 % 7 ∈ (legOf ls r.2).days
theorem rGoes.has {ls : List Leg} {r : Ride} (h : rGoes ls r) : HasLeg ls r.2 := h.2.2.1
/-! the program's own net -/
structure NetAt (S : Sto) (l : Nat) (ps : List (Str × Int)) (ls : List Leg) : Prop where
  ex : ∃ c g, S[l]? = some (.ins "Net" [("changes", .loc c), ("legs", .loc g)]) ∧ S[c]? = some (.dct false (ps.map fun p => (.str p.1, .int p.2))) ∧ S[g]? = some (.dct false (ls.map fun x => (.int x.num, x.d)))
/-- the same, told: its legs may be locked -/
structure NetL (S : Sto) (l : Nat) (ls : List Leg) : Prop where
  ex : ∃ c g, S[l]? = some (.ins "Net" [("changes", .loc c), ("legs", .loc g)]) ∧ dctOf S[g]? = some (false, ls.map fun x => (.int x.num, x.d))
theorem NetAt.l {S : Sto} {l : Nat} {ps : List (Str × Int)} {ls : List Leg} (h : NetAt S l ps ls) : NetL S l ls := by
  obtain ⟨c, g, h1, h2, h3⟩ := h.ex
  exact ⟨⟨c, g, h1, by rw [h3]; rfl⟩⟩
theorem get_app {S : Sto} {l : Nat} {o : O} (h : S[l]? = some o) (T : Sto) : (S ++ T)[l]? = some o := by
  rw [List.getElem?_append_left (List.getElem?_eq_some_iff.mp h).1]; exact h
theorem NetAt.app {S : Sto} {l : Nat} {ps : List (Str × Int)} {ls : List Leg} (h : NetAt S l ps ls) (T : Sto) : NetAt (S ++ T) l ps ls := by
  obtain ⟨c, g, h1, h2, h3⟩ := h.ex
  exact ⟨c, g, get_app h1 T, get_app h2 T, get_app h3 T⟩
end DL

set_option Elab.async false
set_option linter.all false
set_option maxRecDepth 100000
set_option maxHeartbeats 0
/-! The head: what stands behind the top. Printed by gen.py. -/
namespace DL
open PySem PySem.Spec PyProof.Rows L2 LamX
def d_law_drawn : He.DefD := ⟨("_law_drawn", none), "_law_drawn", "_law_drawn", defArgs (top 62), defBody (top 62), defScope (top 62), [], []⟩
def d_Net_leave : He.DefD := ⟨("Net", some "leave"), "leave", "Net.leave", defArgs (inClass (top 46) 7), defBody (inClass (top 46) 7), defScope (inClass (top 46) 7), [], []⟩
def d_Net_long : He.DefD := ⟨("Net", some "long"), "long", "Net.long", defArgs (inClass (top 46) 5), defBody (inClass (top 46) 5), defScope (inClass (top 46) 5), [], []⟩
def d_Net_arrive : He.DefD := ⟨("Net", some "arrive"), "arrive", "Net.arrive", defArgs (inClass (top 46) 8), defBody (inClass (top 46) 8), defScope (inClass (top 46) 8), [], []⟩
def d_Net_goal : He.DefD := ⟨("Net", some "goal"), "goal", "Net.goal", defArgs (inClass (top 46) 4), defBody (inClass (top 46) 4), defScope (inClass (top 46) 4), [], []⟩
def d_Net_start : He.DefD := ⟨("Net", some "start"), "start", "Net.start", defArgs (inClass (top 46) 3), defBody (inClass (top 46) 3), defScope (inClass (top 46) 3), [], []⟩
def d_duty_word : He.DefD := ⟨("duty_word", none), "duty_word", "duty_word", defArgs (top 56), defBody (top 56), defScope (top 56), [], []⟩
def d_is_number : He.DefD := ⟨("is_number", none), "is_number", "is_number", defArgs (top 40), defBody (top 40), defScope (top 40), [], []⟩
def d_Net_goes : He.DefD := ⟨("Net", some "goes"), "goes", "Net.goes", defArgs (inClass (top 46) 1), defBody (inClass (top 46) 1), defScope (inClass (top 46) 1), [], []⟩
def d_Net_need_ride : He.DefD := ⟨("Net", some "need_ride"), "need_ride", "Net.need_ride", defArgs (inClass (top 46) 2), defBody (inClass (top 46) 2), defScope (inClass (top 46) 2), [], []⟩
def d_need_rides : He.DefD := ⟨("need_rides", none), "need_rides", "need_rides", defArgs (top 55), defBody (top 55), defScope (top 55), [], []⟩
def d_are_days : He.DefD := ⟨("are_days", none), "are_days", "are_days", defArgs (top 43), defBody (top 43), defScope (top 43), [], []⟩
def d_is_leg : He.DefD := ⟨("is_leg", none), "is_leg", "is_leg", defArgs (top 44), defBody (top 44), defScope (top 44), [], []⟩
def d_is_word : He.DefD := ⟨("is_word", none), "is_word", "is_word", defArgs (top 41), defBody (top 41), defScope (top 41), [], []⟩
def d_is_place : He.DefD := ⟨("is_place", none), "is_place", "is_place", defArgs (top 42), defBody (top 42), defScope (top 42), [], []⟩
def d_need_net : He.DefD := ⟨("need_net", none), "need_net", "need_net", defArgs (top 45), defBody (top 45), defScope (top 45), [], []⟩
def d_Net_init__ : He.DefD := ⟨("Net", some "__init__"), "__init__", "Net.__init__", defArgs (inClass (top 46) 0), defBody (inClass (top 46) 0), defScope (inClass (top 46) 0), [], []⟩
def d_judged_duty : He.DefD := ⟨("judged_duty", none), "judged_duty", "judged_duty", defArgs (top 57), defBody (top 57), defScope (top 57), [], []⟩
def d_cut : He.DefD := ⟨("cut", none), "cut", "cut", defArgs (top 59), defBody (top 59), defScope (top 59), [], []⟩
def d_rested : He.DefD := ⟨("rested", none), "rested", "rested", defArgs (top 58), defBody (top 58), defScope (top 58), [], []⟩
def d_law_leg : He.DefD := ⟨("_law_leg", none), "_law_leg", "_law_leg", defArgs (top 68), defBody (top 68), defScope (top 68), [], []⟩
def d_law_leave : He.DefD := ⟨("_law_leave", none), "_law_leave", "_law_leave", defArgs (top 67), defBody (top 67), defScope (top 67), [], []⟩
def d_law_times : He.DefD := ⟨("_law_times", none), "_law_times", "_law_times", defArgs (top 70), defBody (top 70), defScope (top 70), [], []⟩
def d_law_word : He.DefD := ⟨("_law_word", none), "_law_word", "_law_word", defArgs (top 71), defBody (top 71), defScope (top 71), [], []⟩
def d_law_rested : He.DefD := ⟨("_law_rested", none), "_law_rested", "_law_rested", defArgs (top 72), defBody (top 72), defScope (top 72), [], []⟩
def d_law_same : He.DefD := ⟨("_law_same", none), "_law_same", "_law_same", defArgs (top 63), defBody (top 63), defScope (top 63), [], []⟩
def d_law_chain : He.DefD := ⟨("_law_chain", none), "_law_chain", "_law_chain", defArgs (top 74), defBody (top 74), defScope (top 74), [], []⟩
def d_law_cut : He.DefD := ⟨("_law_cut", none), "_law_cut", "_law_cut", defArgs (top 73), defBody (top 73), defScope (top 73), [], []⟩
def d_law_kind : He.DefD := ⟨("_law_kind", none), "_law_kind", "_law_kind", defArgs (top 64), defBody (top 64), defScope (top 64), [], []⟩
def d_law_rides : He.DefD := ⟨("_law_rides", none), "_law_rides", "_law_rides", defArgs (top 69), defBody (top 69), defScope (top 69), [], []⟩
def d_law_shuttle : He.DefD := ⟨("_law_shuttle", none), "_law_shuttle", "_law_shuttle", defArgs (top 65), defBody (top 65), defScope (top 65), [], []⟩
def d_law_net : He.DefD := ⟨("_law_net", none), "_law_net", "_law_net", defArgs (top 66), defBody (top 66), defScope (top 66), [], []⟩
def d_law_start : He.DefD := ⟨("_law_start", none), "_law_start", "_law_start", defArgs (top 61), defBody (top 61), defScope (top 61), [], []⟩
def d_law : He.DefD := ⟨("law", none), "law", "law", defArgs (top 75), defBody (top 75), defScope (top 75), [], []⟩
def hFn0 : List He.DefD := [d_law_drawn, d_Net_leave, d_Net_long, d_Net_arrive, d_Net_goal, d_Net_start, d_duty_word, d_is_number, d_Net_goes, d_Net_need_ride, d_need_rides, d_are_days, d_is_leg, d_is_word, d_is_place, d_need_net, d_Net_init__, d_judged_duty, d_cut, d_rested, d_law_leg, d_law_leave, d_law_times, d_law_word, d_law_rested, d_law_same, d_law_chain, d_law_cut, d_law_kind, d_law_rides]
def hFn1 : List He.DefD := [d_law_shuttle, d_law_net, d_law_start, d_law]
def hFn : List He.DefD := hFn0 ++ hFn1
def hFa0 : List He.Fa := [.noat "Net" "changes", .noat "Net" "legs", .cls "Net", .glo "BadChain", .glo "BadClasses", .glo "BadCount", .glo "BadDay", .glo "BadDeed", .glo "BadFleet", .glo "BadName", .glo "BadNet", .glo "BadPlace", .glo "BadText", .glo "BadTime", .glo "CannotFly", .glo "Left", .glo "Net", .glo "NoBooking", .glo "NoClass", .glo "NoDuty", .glo "NoKind", .glo "NoLeg", .glo "NoPlane", .glo "NoSeat", .glo "NoWay", .glo "Taken", .glo "Unmended", .glo "_law_chain", .glo "_law_cut", .glo "_law_drawn"]
def hFa1 : List He.Fa := [.glo "_law_kind", .glo "_law_leave", .glo "_law_leg", .glo "_law_net", .glo "_law_rested", .glo "_law_rides", .glo "_law_same", .glo "_law_shuttle", .glo "_law_start", .glo "_law_times", .glo "_law_word", .glo "are_days", .glo "cut", .glo "duty_word", .glo "is_leg", .glo "is_number", .glo "is_place", .glo "is_word", .glo "judged_duty", .glo "need_net", .glo "need_rides", .glo "rested", .int "AHEAD" 60, .int "BEHIND" 30, .int "DAY" 1440, .int "GAP" 30, .int "LEAST_CHANGE" 10, .int "LEAST_LONG" 20, .int "LEAST_REST" 600, .int "MOST_CHANGE" 300]
def hFa2 : List He.Fa := [.int "MOST_DAY" 60, .int "MOST_DUTY" 840, .int "MOST_DUTY_LEGS" 4, .int "MOST_FARE" 100000, .int "MOST_FLOWN" 540, .int "MOST_LEGS" 60, .int "MOST_LONG" 900, .int "MOST_NUMBER" 9999, .int "MOST_PLACES" 12, .int "PLACE_SIZE" 3, .int "WEEK" 7, .mkr "Net", .meth "Net" "arrive", .meth "Net" "goal", .meth "Net" "goes", .meth "Net" "leave", .meth "Net" "long", .meth "Net" "need_ride", .meth "Net" "start", .free "ValueError", .free "all", .free "bool", .free "dict", .free "enumerate", .free "int", .free "isinstance", .free "len", .free "list", .free "max", .free "min"]
def hFa3 : List He.Fa := [.free "range", .free "sorted", .free "str", .free "sum", .free "tuple", .free "zip", .str "LETTERS" "abcdefghijklmnopqrstuvwxyz", .exc "BadChain", .exc "NoDuty", .exc "NoLeg", .glo "law"]
def hFa : List He.Fa := hFa0 ++ hFa1 ++ hFa2 ++ hFa3
def hKinds : List He.Fa := kinds.map .glo ++ [.glo "AirError"] ++ kindsHere.map fun C => .exm C "AirError" true
def hAll : List He.Fa := hFa ++ hKinds
def hLoose0 : List Str := ["_wall", "__name__", "AirError", "BadNet", "BadFleet", "BadClasses", "BadDay", "BadPlace", "BadTime", "BadCount", "BadChain", "NoDuty", "NoLeg", "NoPlane", "NoKind", "Taken", "CannotFly", "NoWay", "NoSeat", "NoClass", "BadName", "NoBooking", "Left", "Unmended", "BadDeed", "BadText", "DAY", "WEEK", "MOST_DAY", "MOST_PLACES"]
def hLoose1 : List Str := ["MOST_LEGS", "MOST_NUMBER", "MOST_FARE", "LEAST_CHANGE", "MOST_CHANGE", "LEAST_LONG", "MOST_LONG", "LETTERS", "PLACE_SIZE", "is_number", "is_word", "is_place", "are_days", "is_leg", "need_net", "Net", "AHEAD", "BEHIND", "GAP", "MOST_DUTY", "MOST_FLOWN", "MOST_DUTY_LEGS", "LEAST_REST", "need_rides", "duty_word", "judged_duty", "rested", "cut", "_law_start", "_law_drawn"]
def hLoose2 : List Str := ["_law_same", "_law_kind", "_law_shuttle", "_law_net", "_law_leave", "_law_leg", "_law_rides", "_law_times", "_law_word", "_law_rested", "_law_cut", "_law_chain"]
def hLoose : List Str := hLoose0 ++ hLoose1 ++ hLoose2
def hTf : List He.Defn := lamDefs.map (·.1)
def hEx (K : PySem.W.Frag) : Bool := exKinds K kindsHere && exTabs K
abbrev hR : PySem.W.OpenRow := PySem.W.OpenLaw.row PySem.Challenge.rw_airhouse_k07_duties
abbrev hHk : PySem.W.Hook := He.hookX 5 hAll hFn [] hTf hEx
def hOb (s : PySem.W.SharedT) : He.AlX := He.obsX 5 hAll hFn [] hTf hEx (HandSHeadRun.getT s)
theorem hOb_eq (s : PySem.W.SharedT) : hOb s = hHk.obs s.abs := He.obsX_eq (HandSHeadRun.getT_eq s)
theorem hRun (w : World) : HandSHeadRun.RunEq hR (PySem.W.view hR.prog [75]) hHk hOb 20000 hLoose w := by
  intro os
  kernel_rfl
end DL

set_option Elab.async false
set_option linter.all false
set_option maxRecDepth 100000
set_option maxHeartbeats 0
/-! The row, by the law on values. Printed by gen.py. -/
namespace DL
open PySem PySem.Spec PyProof.Rows L2 LamX
theorem hFx {K : PySem.W.Frag} {w : World} {h : Heap} {mg : Str → Option Value} (X : K.In h) (G : h.Ns mainGlobals mg) (c : He.SaysX hAll hFn [] hTf hEx w h K) : Fx K mg where
  a_Net_changes := He.noat_ok (c.t.d.fact 0 (f := .noat "Net" "changes") rfl)
  a_Net_legs := He.noat_ok (c.t.d.fact 1 (f := .noat "Net" "legs") rfl)
  c_Net := He.cls_ok (c.t.d.fact 2 (f := .cls "Net") rfl)
  d_BadChain := He.glo_ok X G (c.t.d.fact 3 (f := .glo "BadChain") rfl)
  d_BadClasses := He.glo_ok X G (c.t.d.fact 4 (f := .glo "BadClasses") rfl)
  d_BadCount := He.glo_ok X G (c.t.d.fact 5 (f := .glo "BadCount") rfl)
  d_BadDay := He.glo_ok X G (c.t.d.fact 6 (f := .glo "BadDay") rfl)
  d_BadDeed := He.glo_ok X G (c.t.d.fact 7 (f := .glo "BadDeed") rfl)
  d_BadFleet := He.glo_ok X G (c.t.d.fact 8 (f := .glo "BadFleet") rfl)
  d_BadName := He.glo_ok X G (c.t.d.fact 9 (f := .glo "BadName") rfl)
  d_BadNet := He.glo_ok X G (c.t.d.fact 10 (f := .glo "BadNet") rfl)
  d_BadPlace := He.glo_ok X G (c.t.d.fact 11 (f := .glo "BadPlace") rfl)
  d_BadText := He.glo_ok X G (c.t.d.fact 12 (f := .glo "BadText") rfl)
  d_BadTime := He.glo_ok X G (c.t.d.fact 13 (f := .glo "BadTime") rfl)
  d_CannotFly := He.glo_ok X G (c.t.d.fact 14 (f := .glo "CannotFly") rfl)
  d_Left := He.glo_ok X G (c.t.d.fact 15 (f := .glo "Left") rfl)
  d_Net := He.glo_ok X G (c.t.d.fact 16 (f := .glo "Net") rfl)
  d_NoBooking := He.glo_ok X G (c.t.d.fact 17 (f := .glo "NoBooking") rfl)
  d_NoClass := He.glo_ok X G (c.t.d.fact 18 (f := .glo "NoClass") rfl)
  d_NoDuty := He.glo_ok X G (c.t.d.fact 19 (f := .glo "NoDuty") rfl)
  d_NoKind := He.glo_ok X G (c.t.d.fact 20 (f := .glo "NoKind") rfl)
  d_NoLeg := He.glo_ok X G (c.t.d.fact 21 (f := .glo "NoLeg") rfl)
  d_NoPlane := He.glo_ok X G (c.t.d.fact 22 (f := .glo "NoPlane") rfl)
  d_NoSeat := He.glo_ok X G (c.t.d.fact 23 (f := .glo "NoSeat") rfl)
  d_NoWay := He.glo_ok X G (c.t.d.fact 24 (f := .glo "NoWay") rfl)
  d_Taken := He.glo_ok X G (c.t.d.fact 25 (f := .glo "Taken") rfl)
  d_Unmended := He.glo_ok X G (c.t.d.fact 26 (f := .glo "Unmended") rfl)
  d__law_chain := He.glo_ok X G (c.t.d.fact 27 (f := .glo "_law_chain") rfl)
  d__law_cut := He.glo_ok X G (c.t.d.fact 28 (f := .glo "_law_cut") rfl)
  d__law_drawn := He.glo_ok X G (c.t.d.fact 29 (f := .glo "_law_drawn") rfl)
  d__law_kind := He.glo_ok X G (c.t.d.fact 30 (f := .glo "_law_kind") rfl)
  d__law_leave := He.glo_ok X G (c.t.d.fact 31 (f := .glo "_law_leave") rfl)
  d__law_leg := He.glo_ok X G (c.t.d.fact 32 (f := .glo "_law_leg") rfl)
  d__law_net := He.glo_ok X G (c.t.d.fact 33 (f := .glo "_law_net") rfl)
  d__law_rested := He.glo_ok X G (c.t.d.fact 34 (f := .glo "_law_rested") rfl)
  d__law_rides := He.glo_ok X G (c.t.d.fact 35 (f := .glo "_law_rides") rfl)
  d__law_same := He.glo_ok X G (c.t.d.fact 36 (f := .glo "_law_same") rfl)
  d__law_shuttle := He.glo_ok X G (c.t.d.fact 37 (f := .glo "_law_shuttle") rfl)
  d__law_start := He.glo_ok X G (c.t.d.fact 38 (f := .glo "_law_start") rfl)
  d__law_times := He.glo_ok X G (c.t.d.fact 39 (f := .glo "_law_times") rfl)
  d__law_word := He.glo_ok X G (c.t.d.fact 40 (f := .glo "_law_word") rfl)
  d_are_days := He.glo_ok X G (c.t.d.fact 41 (f := .glo "are_days") rfl)
  d_cut := He.glo_ok X G (c.t.d.fact 42 (f := .glo "cut") rfl)
  d_duty_word := He.glo_ok X G (c.t.d.fact 43 (f := .glo "duty_word") rfl)
  d_is_leg := He.glo_ok X G (c.t.d.fact 44 (f := .glo "is_leg") rfl)
  d_is_number := He.glo_ok X G (c.t.d.fact 45 (f := .glo "is_number") rfl)
  d_is_place := He.glo_ok X G (c.t.d.fact 46 (f := .glo "is_place") rfl)
  d_is_word := He.glo_ok X G (c.t.d.fact 47 (f := .glo "is_word") rfl)
  d_judged_duty := He.glo_ok X G (c.t.d.fact 48 (f := .glo "judged_duty") rfl)
  d_need_net := He.glo_ok X G (c.t.d.fact 49 (f := .glo "need_net") rfl)
  d_need_rides := He.glo_ok X G (c.t.d.fact 50 (f := .glo "need_rides") rfl)
  d_rested := He.glo_ok X G (c.t.d.fact 51 (f := .glo "rested") rfl)
  i_AHEAD := He.int_ok X G (c.t.d.fact 52 (f := .int "AHEAD" 60) rfl)
  i_BEHIND := He.int_ok X G (c.t.d.fact 53 (f := .int "BEHIND" 30) rfl)
  i_DAY := He.int_ok X G (c.t.d.fact 54 (f := .int "DAY" 1440) rfl)
  i_GAP := He.int_ok X G (c.t.d.fact 55 (f := .int "GAP" 30) rfl)
  i_LEAST_CHANGE := He.int_ok X G (c.t.d.fact 56 (f := .int "LEAST_CHANGE" 10) rfl)
  i_LEAST_LONG := He.int_ok X G (c.t.d.fact 57 (f := .int "LEAST_LONG" 20) rfl)
  i_LEAST_REST := He.int_ok X G (c.t.d.fact 58 (f := .int "LEAST_REST" 600) rfl)
  i_MOST_CHANGE := He.int_ok X G (c.t.d.fact 59 (f := .int "MOST_CHANGE" 300) rfl)
  i_MOST_DAY := He.int_ok X G (c.t.d.fact 60 (f := .int "MOST_DAY" 60) rfl)
  i_MOST_DUTY := He.int_ok X G (c.t.d.fact 61 (f := .int "MOST_DUTY" 840) rfl)
  i_MOST_DUTY_LEGS := He.int_ok X G (c.t.d.fact 62 (f := .int "MOST_DUTY_LEGS" 4) rfl)
  i_MOST_FARE := He.int_ok X G (c.t.d.fact 63 (f := .int "MOST_FARE" 100000) rfl)
  i_MOST_FLOWN := He.int_ok X G (c.t.d.fact 64 (f := .int "MOST_FLOWN" 540) rfl)
  i_MOST_LEGS := He.int_ok X G (c.t.d.fact 65 (f := .int "MOST_LEGS" 60) rfl)
  i_MOST_LONG := He.int_ok X G (c.t.d.fact 66 (f := .int "MOST_LONG" 900) rfl)
  i_MOST_NUMBER := He.int_ok X G (c.t.d.fact 67 (f := .int "MOST_NUMBER" 9999) rfl)
  i_MOST_PLACES := He.int_ok X G (c.t.d.fact 68 (f := .int "MOST_PLACES" 12) rfl)
  i_PLACE_SIZE := He.int_ok X G (c.t.d.fact 69 (f := .int "PLACE_SIZE" 3) rfl)
  i_WEEK := He.int_ok X G (c.t.d.fact 70 (f := .int "WEEK" 7) rfl)
  k_Net := He.mkr_ok (c.t.d.fact 71 (f := .mkr "Net") rfl)
  m_Net_arrive := He.meth_ok (c.t.d.fact 72 (f := .meth "Net" "arrive") rfl)
  m_Net_goal := He.meth_ok (c.t.d.fact 73 (f := .meth "Net" "goal") rfl)
  m_Net_goes := He.meth_ok (c.t.d.fact 74 (f := .meth "Net" "goes") rfl)
  m_Net_leave := He.meth_ok (c.t.d.fact 75 (f := .meth "Net" "leave") rfl)
  m_Net_long := He.meth_ok (c.t.d.fact 76 (f := .meth "Net" "long") rfl)
  m_Net_need_ride := He.meth_ok (c.t.d.fact 77 (f := .meth "Net" "need_ride") rfl)
  m_Net_start := He.meth_ok (c.t.d.fact 78 (f := .meth "Net" "start") rfl)
  n_ValueError := He.free_ok X G (c.t.d.fact 79 (f := .free "ValueError") rfl)
  n_all := He.free_ok X G (c.t.d.fact 80 (f := .free "all") rfl)
  n_bool := He.free_ok X G (c.t.d.fact 81 (f := .free "bool") rfl)
  n_dict := He.free_ok X G (c.t.d.fact 82 (f := .free "dict") rfl)
  n_enumerate := He.free_ok X G (c.t.d.fact 83 (f := .free "enumerate") rfl)
  n_int := He.free_ok X G (c.t.d.fact 84 (f := .free "int") rfl)
  n_isinstance := He.free_ok X G (c.t.d.fact 85 (f := .free "isinstance") rfl)
  n_len := He.free_ok X G (c.t.d.fact 86 (f := .free "len") rfl)
  n_list := He.free_ok X G (c.t.d.fact 87 (f := .free "list") rfl)
  n_max := He.free_ok X G (c.t.d.fact 88 (f := .free "max") rfl)
  n_min := He.free_ok X G (c.t.d.fact 89 (f := .free "min") rfl)
  n_range := He.free_ok X G (c.t.d.fact 90 (f := .free "range") rfl)
  n_sorted := He.free_ok X G (c.t.d.fact 91 (f := .free "sorted") rfl)
  n_str := He.free_ok X G (c.t.d.fact 92 (f := .free "str") rfl)
  n_sum := He.free_ok X G (c.t.d.fact 93 (f := .free "sum") rfl)
  n_tuple := He.free_ok X G (c.t.d.fact 94 (f := .free "tuple") rfl)
  n_zip := He.free_ok X G (c.t.d.fact 95 (f := .free "zip") rfl)
  s_LETTERS := He.str_ok X G (c.t.d.fact 96 (f := .str "LETTERS" "abcdefghijklmnopqrstuvwxyz") rfl)
  x_BadChain := excF_of (c.t.d.fact 97 (f := .exc "BadChain") rfl)
  x_NoDuty := excF_of (c.t.d.fact 98 (f := .exc "NoDuty") rfl)
  x_NoLeg := excF_of (c.t.d.fact 99 (f := .exc "NoLeg") rfl)
theorem hGx {P : Program} {K : PySem.W.Frag} {w : World} {h base : Heap} {mg : Str → Option Value} (X : K.In h) (G : h.Ns mainGlobals mg) (c : He.SaysX hAll hFn [] hTf hEx w h K) (tb : ∀ p ∈ hTf.map (He.cT K), TabB base mg p.1 p.2) : Gx P w K mg base where
  fx := hFx X G c
  kx := kindFx_of X G (He.ba c.more).1 (fun y hy => c.t.d.facts (List.mem_append_right _ (List.mem_append_left _ (List.mem_append_left _ (List.mem_map.mpr ⟨y, hy, rfl⟩)))))
    (c.t.d.facts (List.mem_append_right _ (List.mem_append_left _ (List.mem_append_right _ (List.mem_singleton.mpr rfl))))) (fun C hC => c.t.d.facts (List.mem_append_right _ (List.mem_append_right _ (List.mem_map.mpr ⟨C, hC, rfl⟩))))
  tb := fun p hp => tb _ (List.mem_map.mpr ⟨p.1, List.mem_map.mpr ⟨p, hp, rfl⟩, rfl⟩)
  tm := (exTabs_ok (He.ba c.more).2).1
  tu := (exTabs_ok (He.ba c.more).2).2
  f_law_drawn := c.t.d.def_ 0 (d := d_law_drawn) rfl
  f_Net_leave := c.t.d.def_ 1 (d := d_Net_leave) rfl
  f_Net_long := c.t.d.def_ 2 (d := d_Net_long) rfl
  f_Net_arrive := c.t.d.def_ 3 (d := d_Net_arrive) rfl
  f_Net_goal := c.t.d.def_ 4 (d := d_Net_goal) rfl
  f_Net_start := c.t.d.def_ 5 (d := d_Net_start) rfl
  f_duty_word := c.t.d.def_ 6 (d := d_duty_word) rfl
  f_is_number := c.t.d.def_ 7 (d := d_is_number) rfl
  f_Net_goes := c.t.d.def_ 8 (d := d_Net_goes) rfl
  f_Net_need_ride := c.t.d.def_ 9 (d := d_Net_need_ride) rfl
  f_need_rides := c.t.d.def_ 10 (d := d_need_rides) rfl
  f_are_days := c.t.d.def_ 11 (d := d_are_days) rfl
  f_is_leg := c.t.d.def_ 12 (d := d_is_leg) rfl
  f_is_word := c.t.d.def_ 13 (d := d_is_word) rfl
  f_is_place := c.t.d.def_ 14 (d := d_is_place) rfl
  f_need_net := c.t.d.def_ 15 (d := d_need_net) rfl
  f_Net_init__ := c.t.d.def_ 16 (d := d_Net_init__) rfl
  f_judged_duty := c.t.d.def_ 17 (d := d_judged_duty) rfl
  f_cut := c.t.d.def_ 18 (d := d_cut) rfl
  f_rested := c.t.d.def_ 19 (d := d_rested) rfl
  f_law_leg := c.t.d.def_ 20 (d := d_law_leg) rfl
  f_law_leave := c.t.d.def_ 21 (d := d_law_leave) rfl
  f_law_times := c.t.d.def_ 22 (d := d_law_times) rfl
  f_law_word := c.t.d.def_ 23 (d := d_law_word) rfl
  f_law_rested := c.t.d.def_ 24 (d := d_law_rested) rfl
  f_law_same := c.t.d.def_ 25 (d := d_law_same) rfl
  f_law_chain := c.t.d.def_ 26 (d := d_law_chain) rfl
  f_law_cut := c.t.d.def_ 27 (d := d_law_cut) rfl
  f_law_kind := c.t.d.def_ 28 (d := d_law_kind) rfl
  f_law_rides := c.t.d.def_ 29 (d := d_law_rides) rfl
  f_law_shuttle := c.t.d.def_ 30 (d := d_law_shuttle) rfl
  f_law_net := c.t.d.def_ 31 (d := d_law_net) rfl
  f_law_start := c.t.d.def_ 32 (d := d_law_start) rfl
  f_law := c.t.d.def_ 33 (d := d_law) rfl
/-- THE ROW, from what the law's mirror gives at each script -/
theorem row_of (hLaw : ∀ ns : List Int, ns.length ≤ 63 → (∀ z ∈ ns, Builtin.Int.intBits z ≤ 1048576) → ∃ S, M_law [.ro (ns.map .int)] [] = .ok (.bool true) S) : PySem.Challenge.rw_airhouse_k07_duties.Holds := by
  w_on; o_law
  refine HandSHeadRun.head_any (r := PySem.W.OpenLaw.row PySem.Challenge.rw_airhouse_k07_duties) (q := PySem.W.view (PySem.W.OpenLaw.row PySem.Challenge.rw_airhouse_k07_duties).prog [75]) (H := hHk) (ob := hOb) (M := 20000) (loose := hLoose) (d := HandSHeadRun.topDef (PySem.W.OpenLaw.row PySem.Challenge.rw_airhouse_k07_duties).prog 75) (kwd := []) hOb_eq
    (by kernel_rfl) (fun s => by kernel_rfl) hRun (by kernel_rfl) (by kernel_rfl) (by kernel_rfl) (by rfl) (by first | assumption | decide +kernel) (by decide +kernel) ⟨rfl, rfl, rfl, rfl, rfl, by decide +kernel⟩ ?hw ?hc
  case hw => w_witness2
  case hc =>
    refine LamX.walk_ofTsE (l := PySem.Challenge.rw_airhouse_k07_duties) (n := 63) (k := 16) (x := "_law_script") (CX := fun w => L2.CX PySem.Challenge.rw_airhouse_k07_duties.prog w) rfl (by decide) (by kernel_rfl) ⟨rfl, by decide, by decide⟩ ?F (fun _ _ _ _ _ z => cx_false z)
    intro w mg fa h Y G hmg0
    obtain ⟨K, KX, c⟩ := Y
    have hmg : mg ("law" : PySem.Str) = some (.ref fa) := by
      have e : (HandSHeadRun.topDef (PySem.W.OpenLaw.row PySem.Challenge.rw_airhouse_k07_duties).prog 75).name = ("law" : PySem.Str) := by kernel_rfl
      rw [← e]
      exact hmg0
    obtain ⟨fd, F⟩ := c.t.d.def_ 33 (d := d_law) rfl
    have e := hmg.symm.trans (He.glo_ok KX G (c.t.d.fact 100 (f := .glo "law") rfl))
    cases e
    have b := FunD.bindsA (ps := ["_law_script"]) F fun _ _ _ _ _ _ us hl => match us, hl with | [_], _ => rfl
    refine ⟨K, KX, fd, hTf.map (He.cT K), spD K mg 1 M_law, fun p hp => ?_, fun p hp => ?_, fun p hp => ?_, fun s v => b s [v] rfl, fun H a ns hl hbits hH hS => ?_, fun base KB GB TB => (ok_law (hGx KX G c TB) F).ok⟩
    · obtain ⟨q, hq, rfl⟩ := List.mem_map.mp hp
      exact c.empty q hq
    · obtain ⟨q, hq, rfl⟩ := List.mem_map.mp hp
      exact c.out q hq
    · obtain ⟨q, hq, rfl⟩ := List.mem_map.mp hp
      exact PySem.W.codeHd_of_K KX (c.hd q hq)
    · refine start_sp hS (fun p hp => ?_) (hLaw ns hl hbits)
      obtain ⟨q, hq, rfl⟩ := List.mem_map.mp hp
      exact hH (He.cT K q.1) (List.mem_map.mpr ⟨q.1, List.mem_map.mpr ⟨q, hq, rfl⟩, rfl⟩)
end DL

set_option Elab.async false
set_option linter.all false
set_option maxRecDepth 100000
set_option maxHeartbeats 1000000
/-! N1: what the law draws. -/
namespace DL
open PySem PySem.Spec PyProof.Rows L2 LamX
/-- the state of the drawing -/
def stD (sc : List Int) (p m r : Int) : O := .lst [.ro (sc.map .int), .int p, .int m, .int r]
structure Dr (sc : List Int) (o : O) : Prop where
  ex : ∃ p m r, o = stD sc p m r ∧ 0 ≤ p ∧ 0 ≤ r
theorem drawn_spec {sc : List Int} {p m r : Int} {T : Sto} {many : Int} (hm : 0 < many) (hm2 : many < 1073741824) (h0 : 0 ≤ p) (hr : 0 ≤ r) :
    ∃ v p' m' r', M_law_drawn [.loc 0, .int many] (stD sc p m r :: T) = .ok (.int v) (stD sc p' m' r' :: T) ∧ 0 ≤ v ∧ v < many ∧ 0 ≤ p' ∧ 0 ≤ r' := by
  by_cases h : 0 < r
  · exact ⟨r % many, p, m, r / many, by simp [M_law_drawn, b_law_drawn, stD, fIx, h, hm, hm2, atI, ixN, cMod, cDiv, fInt, subPut], Int.emod_nonneg _ (by omega), Int.emod_lt_of_pos _ hm, h0, Int.ediv_nonneg hr (by omega)⟩
  · have hr0 : r = 0 := by omega
    subst hr0
    by_cases hp : p + 1 ≤ sc.length
    · have hx : atI (sc.map D.int) p = some (.int (sc[p.toNat]'(by omega))) := by
        rw [atI_get h0 (by simp; omega)]
        simp [List.getElem?_map, List.getElem?_eq_getElem (show p.toNat < sc.length by omega)]
      generalize sc[p.toNat]'(by omega) = c at hx
      have x1 : ixN 4 1 = some 1 := rfl
      have x3 : ixN 4 3 = some 3 := rfl
      by_cases hc : 1000000000000000000 ≤ c
      · refine ⟨c % many, p + 1, m, c / many, ?_, Int.emod_nonneg _ (by omega), Int.emod_lt_of_pos _ hm, by omega, Int.ediv_nonneg (by omega) (by omega)⟩
        simp [M_law_drawn, b_law_drawn, stD, fIx, x1, x3, hx, hc, hm, hm2, cMod, cDiv, fInt, subPut, fLen, hp, cPow]
      · refine ⟨c % many, p + 1, m, 0, ?_, Int.emod_nonneg _ (by omega), Int.emod_lt_of_pos _ hm, by omega, by omega⟩
        simp [M_law_drawn, b_law_drawn, stD, fIx, x1, x3, hx, hc, hm, hm2, cMod, cDiv, fInt, subPut, fLen, hp, cPow]
    · refine ⟨(m * 48271 + 11) % 2147483647 / 7 % many, p + 1, (m * 48271 + 11) % 2147483647, 0, ?_, Int.emod_nonneg _ (by omega), Int.emod_lt_of_pos _ hm, by omega, by omega⟩
      simp [M_law_drawn, b_law_drawn, stD, fIx, hm, hm2, atI, ixN, cMod, cDiv, fInt, subPut, fLen, hp, cPow, cMul]
theorem wp_drawn {sc : List Int} {o : O} {T : Sto} {many : Int} {Q : D → Sto → Prop} {E : XV → Sto → Prop} (d : Dr sc o) (hm : 0 < many) (hm2 : many < 1073741824) (k : ∀ (v : Int) (o' : O), Dr sc o' → 0 ≤ v → v < many → Q (.int v) (o' :: T)) : Res.wp (M_law_drawn [.loc 0, .int many] (o :: T)) Q E := by
  obtain ⟨p, m, r, rfl, h0, hr⟩ := d.ex
  obtain ⟨v, p', m', r', e, h1, h2, h3, h4⟩ := drawn_spec (sc := sc) (m := m) (T := T) hm hm2 h0 hr
  rw [e, wp_ok]
  exact k v _ ⟨p', m', r', rfl, h3, h4⟩ h1 h2
theorem wp_start {sc : List Int} {Q : D → Sto → Prop} {E : XV → Sto → Prop} (k : ∀ o, Dr sc o → Q (.loc 0) [o]) : Res.wp (M_law_start [.ro (sc.map .int)] []) Q E := by
  unfold M_law_start
  apply wp_body
  unfold b_law_start
  simp
  refine wp_for (f := D.int) sc (fun _ _ env S => ∃ m x, env = [some (.ro (sc.map .int)), some (.int m), x] ∧ S = []) rfl ⟨_, _, rfl, rfl⟩ ?_ ?_
  · rintro pre x rest env S _ ⟨m, y, rfl, rfl⟩
    refine ⟨_, rfl, ?_⟩
    simp [cMul, cMod]
  · rintro env S ⟨m, x, rfl, rfl⟩
    simp
    exact k _ ⟨0, m, 0, rfl, by omega, by omega⟩
end DL

set_option Elab.async false
set_option linter.all false
set_option maxRecDepth 100000
set_option maxHeartbeats 4000000
/-! N2: the nets that are drawn. -/
namespace DL
open PySem PySem.Spec PyProof.Rows L2 LamX
theorem pick {xs : List D} {v : Int} (h0 : 0 ≤ v) (h1 : v < xs.length) (P : D → Prop) (h : ∀ d ∈ xs, P d) : ∃ d, atI xs v = some d ∧ P d := by
  obtain ⟨x, hx, e⟩ := mem_of_atI h0 h1
  exact ⟨x, e, h x hx⟩
theorem six_take {n : Nat} (h : n ≤ 6) : (six.take n).length = n ∧ (six.take n).Nodup := by
  have : n = 0 ∨ n = 1 ∨ n = 2 ∨ n = 3 ∨ n = 4 ∨ n = 5 ∨ n = 6 := by omega
  rcases this with rfl | rfl | rfl | rfl | rfl | rfl | rfl <;> decide +kernel
theorem rngD_map (lo : Int) (n : Nat) : rngD lo n = (List.range n).map fun i => D.int (lo + (i : Nat)) := rfl
theorem range_at {n : Nat} {pre rest : List Nat} {k : Nat} (h : pre ++ k :: rest = List.range n) : k = pre.length ∧ k < n := by
  have hl := congrArg List.length h
  simp at hl
  have hk : (pre ++ k :: rest)[pre.length]? = some k := by simp
  rw [h, List.getElem?_range (by omega)] at hk
  cases hk
  exact ⟨rfl, by omega⟩
/-- legs that are being drawn: k turns of them behind one another -/
structure LegsUpTo (names : List Str) (top : Int) (n : Nat) (ls : List Leg) : Prop where
  ok : ∀ l ∈ ls, LegOk names l
  nd : (ls.map (·.num)).Nodup
  lt : ∀ l ∈ ls, l.num < top
  len : ls.length ≤ n
theorem LegsUpTo.add {names : List Str} {t t' : Int} {n n' : Nat} {ls : List Leg} {l : Leg} (h : LegsUpTo names t n ls) (hl : LegOk names l) (h1 : t ≤ l.num) (h2 : l.num < t') (hn : n + 1 ≤ n') : LegsUpTo names t' n' (ls ++ [l]) where
  ok := fun x hx => by
    rcases List.mem_append.mp hx with hx | hx
    · exact h.ok x hx
    · rw [List.mem_singleton.mp hx]; exact hl
  nd := by
    rw [List.map_append, List.nodup_append]
    refine ⟨h.nd, by simp, fun a ha b hb => ?_⟩
    obtain ⟨x, hx, rfl⟩ := List.mem_map.mp ha
    obtain ⟨y, hy, rfl⟩ := List.mem_map.mp hb
    rw [List.mem_singleton.mp hy]
    have := h.lt x hx
    omega
  lt := fun x hx => by
    rcases List.mem_append.mp hx with hx | hx
    · have := h.lt x hx
      omega
    · rw [List.mem_singleton.mp hx]; exact h2
  len := by rw [List.length_append]; have := h.len; simp; omega
theorem LegsUpTo.mono {names : List Str} {t t' : Int} {n n' : Nat} {ls : List Leg} (h : LegsUpTo names t n ls) (h1 : t ≤ t') (hn : n ≤ n') : LegsUpTo names t' n' ls :=
  ⟨h.ok, h.nd, fun l hl => by have := h.lt l hl; omega, by have := h.len; omega⟩
theorem LegsUpTo.nil (names : List Str) (t : Int) (n : Nat) : LegsUpTo names t n [] := ⟨nofun, .nil, nofun, by simp⟩
theorem cut_names {n : Nat} (h : n ≤ 6) : cutD (six.map D.str) none (some (n : Int)) = (six.take n).map D.str := by
  rw [cut_to, List.map_take]
def nm (i : Int) : Str := six.getD i.toNat ""
theorem six_len : six.length = 6 := rfl
theorem nm_get {i : Int} (h0 : 0 ≤ i) (h1 : i < 6) : six[i.toNat]? = some (nm i) := by
  unfold nm
  rw [List.getD_eq_getElem?_getD, List.getElem?_eq_getElem (by rw [six_len]; omega)]
  rfl
theorem nm_at {m : Nat} {i : Int} (hm : m ≤ 6) (h0 : 0 ≤ i) (h1 : i < m) : atI ((six.take m).map D.str) i = some (.str (nm i)) := by
  rw [atI_get h0 (by rw [List.length_map, (six_take hm).1]; exact h1), List.getElem?_map, List.getElem?_take_of_lt (by omega), nm_get h0 (by omega)]
  rfl
theorem nm_mem {m : Nat} {i : Int} (hm : m ≤ 6) (h0 : 0 ≤ i) (h1 : i < m) : nm i ∈ six.take m := by
  have := nm_get h0 (by omega)
  rw [← List.getElem?_take_of_lt (l := six) (j := m) (by omega)] at this
  exact List.mem_of_getElem? this
theorem nm_ne {i j : Int} (h0 : 0 ≤ i) (h1 : i < 6) (h2 : 0 ≤ j) (h3 : j < 6) (h : i ≠ j) : nm i ≠ nm j := fun e => by
  have nd : six.Nodup := by decide +kernel
  have a := nm_get h0 h1
  have b := nm_get h2 h3
  rw [← e, ← a] at b
  have := (List.getElem?_inj (by rw [six_len]; omega) nd).mp b
  omega
theorem mod_ne {k m : Int} (h : 2 ≤ m) (c : Int) (h1 : 1 ≤ c) (h2 : c < m) : (k + c) % m ≠ k % m := fun e => by
  have h3 := Int.emod_emod_of_dvd k (Int.dvd_refl m)
  have h4 : (k + c - k) % m = 0 := by rw [Int.sub_emod, e]; simp
  rw [show k + c - k = c by omega, Int.emod_eq_of_lt (by omega) h2] at h4
  omega
/-- days that a leg may have -/
structure DaysOk (ds : List Int) : Prop where
  ne : ds ≠ []
  lt : ds.Pairwise (· < ·)
  bd : ∀ d ∈ ds, 0 ≤ d ∧ d ≤ 6
theorem DaysOk.one {v : Int} (h0 : 0 ≤ v) (h1 : v < 7) : DaysOk [v] := ⟨by simp, by simp, fun d hd => by rw [List.mem_singleton.mp hd]; omega⟩
theorem netOk_of {m : Nat} {t : Int} {n : Nat} {ps : List (Str × Int)} {ls : List Leg} (h : LegsUpTo (six.take m) t n ls) (hm : 2 ≤ m ∧ m ≤ 6) (hn : n ≤ 28) (ne : ls ≠ []) (hp : ps.map (·.1) = six.take m) (hc : ∀ p ∈ ps, 10 ≤ p.2 ∧ p.2 ≤ 300) : NetOk ps ls :=
  ⟨⟨m, hm.1, hm.2, hp⟩, hc, by rw [hp]; exact h.ok, h.nd, ne, by have := h.len; omega, Nat.le_trans h.len hn⟩
/-- what stands as legs are drawn -/
structure LegI (sc : List Int) (T : Sto) (front : En) (names : List Str) (nt : Nat) (top : Int) (n : Nat) (env : En) (S : Sto) : Prop where
  ex : ∃ o ls tail, Dr sc o ∧ tail.length = nt ∧ env = front ++ tail ∧ S = o :: (T ++ [.lst (ls.map Leg.d)]) ∧ LegsUpTo names top n ls ∧ (n ≠ 0 → ls ≠ [])
theorem len4 {α : Type} {l : List α} (h : l.length = 4) : ∃ a b c d, l = [a, b, c, d] := by
  match l, h with
  | [a, b, c, d], _ => exact ⟨a, b, c, d, rfl⟩
theorem len9 {α : Type} {l : List α} (h : l.length = 9) : ∃ a b c d e f g i j, l = [a, b, c, d, e, f, g, i, j] := by
  match l, h with
  | [a, b, c, d, e, f, g, i, j], _ => exact ⟨a, b, c, d, e, f, g, i, j, rfl⟩
/-- what stands as places are drawn -/
structure PlI (sc : List Int) (T : Sto) (pre : List Str) (acc : List D) (S : Sto) : Prop where
  ex : ∃ o cs, Dr sc o ∧ S = o :: T ∧ acc = (pre.zip cs).map placeD ∧ cs.length = pre.length ∧ ∀ c ∈ cs, 10 ≤ c ∧ c ≤ 300
theorem PlI.add {sc : List Int} {T : Sto} {pre : List Str} {cs : List Int} {o : O} {x : Str} {c : Int} (d : Dr sc o) (hc1 : cs.length = pre.length) (hc2 : ∀ c ∈ cs, 10 ≤ c ∧ c ≤ 300) (hc : 10 ≤ c ∧ c ≤ 300) : PlI sc T (pre ++ [x]) ((pre.zip cs).map placeD ++ [.tup [.str x, .int c]]) (o :: T) :=
  ⟨o, cs ++ [c], d, rfl, by rw [List.zip_append hc1.symm]; simp [placeD], by simp [hc1], fun e he => by
    rcases List.mem_append.mp he with he | he
    · exact hc2 e he
    · rw [List.mem_singleton.mp he]; exact hc⟩
/-- the shuttle's net -/
theorem wp_shuttle {sc : List Int} {o : O} {T : Sto} {Q : D → Sto → Prop} {E : XV → Sto → Prop} (d : Dr sc o) (k : ∀ ps ls o' j, NetOk ps ls → Dr sc o' → Q (netD ps ls) (o' :: (T ++ [j]))) : Res.wp (M_law_shuttle [.loc 0] (o :: T)) Q E := by
  unfold M_law_shuttle
  apply wp_body
  unfold b_law_shuttle
  simp -dsimp
  refine wp_drawn d (by omega) (by omega) fun v o1 d1 a1 a2 => ?_
  obtain ⟨n, rfl⟩ := Int.eq_ofNat_of_zero_le a1
  simp -dsimp
  rw [show cutD [D.str (Str.ofString "aba"), D.str (Str.ofString "bcd"), D.str (Str.ofString "cad")] none (some (2 + (n : Int))) = (six.take (2 + n)).map D.str by
    rw [show (2 + (n : Int)) = ((2 + n : Nat) : Int) by omega, cut_to]
    have : n = 0 ∨ n = 1 := by omega
    rcases this with rfl | rfl <;> rfl]
  generalize hm : 2 + n = m
  have hm1 : 2 ≤ m ∧ m ≤ 6 := by omega
  obtain ⟨nn, hnn⟩ : ∃ nn, nn = (six.take m).map D.str := ⟨_, rfl⟩
  rw [← hnn]
  have hln : (nn.length : Int) = m := by rw [hnn, List.length_map, (six_take hm1.2).1]
  refine wp_drawn d1 (by omega) (by omega) fun v1 o2 d2 b1 b2 => ?_
  simp -dsimp
  refine wp_drawn d2 (by omega) (by omega) fun v2 o3 d3 c1 c2 => ?_
  simp -dsimp
  refine wp_drawn d3 (by omega) (by omega) fun v3 o4 d4 e1 e2 => ?_
  simp -dsimp
  refine wp_drawn d4 (by omega) (by omega) fun v4 o5 d5 f1 f2 => ?_
  obtain ⟨dd, hdd, ds, rfl, hds⟩ := pick (xs := [.tup [.int 0, .int 1, .int 2, .int 3, .int 4, .int 5, .int 6], .tup [.int 1, .int 2, .int 5], .tup [.int v3]]) (v := v4) f1 f2 (fun d => ∃ ds, d = dayD false ds ∧ DaysOk ds) (by
    intro d hd
    simp only [List.mem_cons, List.not_mem_nil, or_false] at hd
    rcases hd with rfl | rfl | rfl
    · exact ⟨[0, 1, 2, 3, 4, 5, 6], rfl, by simp, by decide +kernel, by decide +kernel⟩
    · exact ⟨[1, 2, 5], rfl, by simp, by decide +kernel, by decide +kernel⟩
    · exact ⟨[v3], rfl, .one e1 e2⟩)
  simp -dsimp [hdd]
  refine wp_drawn d5 (by omega) (by omega) fun v5 o6 d6 g1 g2 => ?_
  have hs : smallI (3 + v5) = true := smallI_of (by omega)
  simp -dsimp [hs, rngD_map]
  refine wp_for (f := fun i : Nat => D.int i) (List.range (3 + v5).toNat) (fun pre _ => LegI sc T [some (.loc 0), some (.lst nn), some (.loc (T.length + 1)), some (.int (20 + 10 * v1)), some (.int (60 + 10 * v2)), some (dayD false ds)] (six.take m) 4 (10 + 3 * pre.length) (2 * pre.length)) (by simp) ⟨o6, [], [none, none, none, none], d6, rfl, rfl, rfl, .nil _ _ _, fun z => absurd rfl z⟩ ?_ ?_
  · rintro pre k rest env S hpre ⟨o', ls, tail, dd', ht, rfl, rfl, hL, _⟩
    obtain ⟨x6, x7, x8, x9, rfl⟩ := len4 ht
    obtain ⟨rfl, hk⟩ := range_at hpre
    have hl1 := hL.len
    refine ⟨_, rfl, ?_⟩
    have hk7 : pre.length < 7 := by omega
    have hm0 : cMod (pre.length : Int) m = true ∧ cMod (pre.length + 1 : Int) m = true := by simp [cMod]; omega
    obtain ⟨i, hi⟩ : ∃ i : Int, i = (pre.length : Int) % m := ⟨_, rfl⟩
    obtain ⟨j, hj⟩ : ∃ j : Int, j = ((pre.length : Int) + 1) % m := ⟨_, rfl⟩
    have hi1 : 0 ≤ i ∧ i < m := by rw [hi]; exact ⟨Int.emod_nonneg _ (by omega), Int.emod_lt_of_pos _ (by omega)⟩
    have hj1 : 0 ≤ j ∧ j < m := by rw [hj]; exact ⟨Int.emod_nonneg _ (by omega), Int.emod_lt_of_pos _ (by omega)⟩
    have hij : i ≠ j := by rw [hi, hj]; exact fun z => mod_ne (by omega) 1 (by omega) (by omega) z.symm
    have ei : atI nn i = some (.str (nm i)) := by rw [hnn]; exact nm_at hm1.2 hi1.1 hi1.2
    have ej : atI nn j = some (.str (nm j)) := by rw [hnn]; exact nm_at hm1.2 hj1.1 hj1.2
    have hgk : cMul (60 + 10 * v2) pre.length = true := cMul_small (by omega)
    have hll : ls.length < 1000000 := by omega
    simp -dsimp [hln, hm0, ← hi, ← hj, ei, ej, hgk, isLstB, bAppend, hll]
    have hd9 : DaysOk ds := hds
    obtain ⟨A, hA⟩ : ∃ A : Leg, A = ⟨10 + 3 * pre.length, nm i, nm j, 300 + (60 + 10 * v2) * pre.length, 20 + 10 * v1, false, ds, 100 + pre.length⟩ := ⟨_, rfl⟩
    have ok1 : LegOk (six.take m) ⟨10 + 3 * pre.length, nm i, nm j, 300 + (60 + 10 * v2) * pre.length, 20 + 10 * v1, false, ds, 100 + pre.length⟩ := by
      have : (60 + 10 * v2) * (pre.length : Int) ≤ 150 * 6 := Int.mul_le_mul (by omega) (by omega) (by omega) (by omega)
      have : 0 ≤ (60 + 10 * v2) * (pre.length : Int) := Int.mul_nonneg (by omega) (by omega)
      exact ⟨⟨by simp; omega, by simp; omega⟩, nm_mem hm1.2 hi1.1 hi1.2, nm_mem hm1.2 hj1.1 hj1.2, nm_ne hi1.1 (by omega) hj1.1 (by omega) hij, ⟨by simp; omega, by simp; omega⟩, ⟨by simp; omega, by simp; omega⟩, hds.ne, hds.lt, hds.bd, ⟨by simp; omega, by simp; omega⟩, ⟨by simp only; omega, by simp only; omega⟩⟩
    rw [← hA] at ok1
    have hL1 := LegsUpTo.add (t' := 11 + 3 * pre.length) (n' := 2 * pre.length + 1) hL ok1 (by simp [hA]) (by simp [hA]) (by omega)
    refine wp_drawn dd' (by omega) (by omega) fun w1 o7 d7 p1 p2 => ?_
    simp -dsimp
    refine wpS_ite (fun hw => ?_) (fun hw => ?_)
    · simp -dsimp [isLstB, hgk]
      refine wp_drawn d7 (by omega) (by omega) fun w2 o8 d8 q1 q2 => ?_
      have hll1 : ls.length + 1 < 1000000 := by omega
      simp -dsimp [bAppend, hll1]
      obtain ⟨B, hB⟩ : ∃ B : Leg, B = ⟨11 + 3 * pre.length, nm j, nm i, 300 + (60 + 10 * v2) * pre.length, 20 + 10 * v1 + 10 * w2, false, ds, 77⟩ := ⟨_, rfl⟩
      have ok2 : LegOk (six.take m) ⟨11 + 3 * pre.length, nm j, nm i, 300 + (60 + 10 * v2) * pre.length, 20 + 10 * v1 + 10 * w2, false, ds, 77⟩ := by
        have : (60 + 10 * v2) * (pre.length : Int) ≤ 150 * 6 := Int.mul_le_mul (by omega) (by omega) (by omega) (by omega)
        have : 0 ≤ (60 + 10 * v2) * (pre.length : Int) := Int.mul_nonneg (by omega) (by omega)
        exact ⟨⟨by simp; omega, by simp; omega⟩, nm_mem hm1.2 hj1.1 hj1.2, nm_mem hm1.2 hi1.1 hi1.2, nm_ne hj1.1 (by omega) hi1.1 (by omega) hij.symm, ⟨by simp; omega, by simp; omega⟩, ⟨by simp; omega, by simp; omega⟩, hds.ne, hds.lt, hds.bd, ⟨by simp, by simp⟩, ⟨by simp only; omega, by simp only; omega⟩⟩
      rw [← hB] at ok2
      have hL2 := LegsUpTo.add (t' := 10 + 3 * (pre.length + 1 : Nat)) (n' := 2 * (pre.length + 1)) hL1 ok2 (by simp [hB]) (by simp [hB]; omega) (by omega)
      exact ⟨o8, ls ++ [A] ++ [B], [_, _, _, _], d8, rfl, rfl, by simp [hA, hB, Leg.d], by simpa using hL2, by simp⟩
    · simp -dsimp
      exact ⟨o7, ls ++ [A], [_, _, _, _], d7, rfl, rfl, by simp [hA, Leg.d], by simpa using hL1.mono (t' := 10 + 3 * (pre.length + 1 : Nat)) (n' := 2 * (pre.length + 1)) (by omega) (by omega), by simp⟩
  · rintro env S ⟨o', ls, tail, dd', ht, rfl, rfl, hL, hne⟩
    obtain ⟨x6, x7, x8, x9, rfl⟩ := len4 ht
    simp -dsimp
    have hn2 : nn.length ≤ 1000000 := by omega
    refine wp_compI (f := D.str) (six.take m) (fun pre _ => PlI sc (T ++ [.lst (ls.map Leg.d)]) pre) hnn ⟨o', [], dd', rfl, rfl, rfl, nofun⟩ ?_ ?_
    · rintro pre x rest acc S hp ⟨o1, cs, dd1, rfl, rfl, hc1, hc2⟩
      refine ⟨_, rfl, ?_⟩
      simp -dsimp
      refine wp_drawn dd1 (by omega) (by omega) fun w2 o8 d8 q1 q2 => ?_
      simp -dsimp
      have := congrArg List.length hp
      simp [(six_take hm1.2).1] at this
      exact ⟨by omega, .add d8 hc1 hc2 (by omega)⟩
    · rintro acc S ⟨o1, cs, dd1, rfl, rfl, hc1, hc2⟩
      simp -dsimp [fTup_loc]
      have hpos : 0 < (3 + v5).toNat := by omega
      refine k ((six.take m).zip cs) ls o1 (.lst (ls.map Leg.d)) (netOk_of hL hm1 (by simp; omega) (hne fun z => ?_) ?_ ?_) dd1
      · simp at z
        omega
      · rw [List.map_fst_zip (by omega)]
      · intro p hp
        exact hc2 _ (List.of_mem_zip hp).2
/-- days drawn one by one -/
structure DyI (sc : List Int) (T : Sto) (k : Nat) (acc : List D) (S : Sto) : Prop where
  ex : ∃ (o : O) (ds : List Int), Dr sc o ∧ S = o :: T ∧ acc = ds.map D.int ∧ ds.Pairwise (· < ·) ∧ (∀ d ∈ ds, 0 ≤ d ∧ d < k) ∧ ds.length ≤ k
/-- days drawn -/
structure DyR (sc : List Int) (T : Sto) (d : D) (S : Sto) : Prop where
  ex : ∃ o db ds, d = dayD db ds ∧ S = o :: T ∧ Dr sc o ∧ DaysOk ds
/-- the net that is drawn -/
theorem wp_net {sc : List Int} {o : O} {T : Sto} {Q : D → Sto → Prop} {E : XV → Sto → Prop} (d : Dr sc o) (k : ∀ ps ls o' j, NetOk ps ls → Dr sc o' → Q (netD ps ls) (o' :: (T ++ [j]))) : Res.wp (M_law_net [.loc 0] (o :: T)) Q E := by
  unfold M_law_net
  apply wp_body
  unfold b_law_net
  simp -dsimp
  refine wp_drawn d (by omega) (by omega) fun v o1 d1 a1 a2 => ?_
  simp -dsimp
  refine wpS_ite (fun hv => ?_) (fun hv => ?_)
  · simp -dsimp
    exact wp_shuttle d1 fun ps ls o' j h dd => by rw [wpS_ret]; exact k ps ls o' j h dd
  simp -dsimp
  clear a1 a2 hv v d o
  refine wp_drawn d1 (by omega) (by omega) fun v o2 d2 a1 a2 => ?_
  obtain ⟨n, rfl⟩ := Int.eq_ofNat_of_zero_le a1
  simp -dsimp
  rw [show cutD [D.str (Str.ofString "aba"), D.str (Str.ofString "bcd"), D.str (Str.ofString "cad"), D.str (Str.ofString "dub"), D.str (Str.ofString "eli"), D.str (Str.ofString "fra")] none (some (2 + (n : Int))) = (six.take (2 + n)).map D.str by
    rw [show (2 + (n : Int)) = ((2 + n : Nat) : Int) by omega, cut_to, List.map_take]; rfl]
  generalize hm : 2 + n = m
  have hm1 : 2 ≤ m ∧ m ≤ 6 := by omega
  obtain ⟨nn, hnn⟩ : ∃ nn, nn = (six.take m).map D.str := ⟨_, rfl⟩
  rw [← hnn]
  have hln : (nn.length : Int) = m := by rw [hnn, List.length_map, (six_take hm1.2).1]
  refine wp_compI (f := D.str) (six.take m) (fun pre _ => PlI sc T pre) hnn ⟨o2, [], d2, rfl, rfl, rfl, nofun⟩ ?_ ?_
  · rintro pre x rest acc S hp ⟨o3, cs, d3, rfl, rfl, hc1, hc2⟩
    refine ⟨_, rfl, ?_⟩
    simp -dsimp
    refine wp_drawn d3 (by omega) (by omega) fun w1 o4 d4 p1 p2 => ?_
    simp -dsimp
    refine wp_drawn d4 (by omega) (by omega) fun w2 o5 d5 q1 q2 => ?_
    obtain ⟨dd, hdd, c, rfl, hc⟩ := pick (xs := [.int 30, .int 10, .int 60, .int (10 + w1)]) (v := w2) q1 q2 (fun d => ∃ c, d = .int c ∧ 10 ≤ c ∧ c ≤ 300) (by
      intro d hd
      simp only [List.mem_cons, List.not_mem_nil, or_false] at hd
      rcases hd with rfl | rfl | rfl | rfl
      · exact ⟨_, rfl, by omega, by omega⟩
      · exact ⟨_, rfl, by omega, by omega⟩
      · exact ⟨_, rfl, by omega, by omega⟩
      · exact ⟨_, rfl, by omega, by omega⟩)
    simp -dsimp [hdd]
    have := congrArg List.length hp
    simp [(six_take hm1.2).1] at this
    exact ⟨by omega, .add d5 hc1 hc2 hc⟩
  rintro acc S ⟨o3, cs, d3, rfl, rfl, hc1, hc2⟩
  have hps1 : ((six.take m).zip cs).map (·.1) = six.take m := List.map_fst_zip (by omega)
  have hps2 : ∀ p ∈ (six.take m).zip cs, 10 ≤ p.2 ∧ p.2 ≤ 300 := fun p hp => hc2 _ (List.of_mem_zip hp).2
  generalize (six.take m).zip cs = ps at hps1 hps2
  clear hc1 hc2 cs
  simp -dsimp
  refine wp_drawn d3 (by omega) (by omega) fun w1 o4 d4 p1 p2 => ?_
  obtain ⟨dd, hdd, w2, rfl, hw2⟩ := pick (xs := [.int 6, .int 13]) (v := w1) p1 p2 (fun d => ∃ c, d = .int c ∧ 6 ≤ c ∧ c ≤ 13) (by
      intro d hd
      simp only [List.mem_cons, List.not_mem_nil, or_false] at hd
      rcases hd with rfl | rfl
      · exact ⟨_, rfl, by omega, by omega⟩
      · exact ⟨_, rfl, by omega, by omega⟩)
  simp -dsimp [hdd]
  refine wp_drawn d4 (by omega) (by omega) fun w3 o5 d5 q1 q2 => ?_
  have hs : smallI (2 + w3) = true := smallI_of (by omega)
  simp -dsimp [hs, rngD_map]
  refine wp_for (f := fun i : Nat => D.int i) (List.range (2 + w3).toNat) (fun pre _ => LegI sc T [some (.loc 0), some (.lst nn), some (.tpn (ps.map placeD)), some (.loc (T.length + 1))] (six.take m) 9 (100 + 7 * pre.length) (2 * pre.length)) (by simp) ⟨o5, [], [none, none, none, none, none, none, none, none, none], d5, rfl, rfl, rfl, .nil _ _ _, fun z => absurd rfl z⟩ ?_ ?_
  · rintro pre k rest env S hpre ⟨o6, ls, tail, d6, ht, rfl, rfl, hL, _⟩
    obtain ⟨x4, x5, x6, x7, x8, x9, x10, x11, x12, rfl⟩ := len9 ht
    obtain ⟨rfl, hk⟩ := range_at hpre
    have hl1 := hL.len
    refine ⟨_, rfl, ?_⟩
    have hk7 : pre.length < 14 := by omega
    simp -dsimp [hln]
    refine wp_drawn d6 (by omega) (by omega) fun i o7 d7 i1 i2 => ?_
    simp -dsimp [hln]
    refine wp_drawn d7 (by omega) (by omega) fun w4 o8 d8 r1 r2 => ?_
    have hcm : cMod (i + 1 + w4) m = true := by simp [cMod]; omega
    obtain ⟨j, hj⟩ : ∃ j : Int, j = (i + 1 + w4) % m := ⟨_, rfl⟩
    have hj1 : 0 ≤ j ∧ j < m := by rw [hj]; exact ⟨Int.emod_nonneg _ (by omega), Int.emod_lt_of_pos _ (by omega)⟩
    have hij : i ≠ j := by
      rw [hj]
      intro z
      refine mod_ne (k := i) (m := m) (by omega) (1 + w4) (by omega) (by omega) ?_
      rw [Int.emod_eq_of_lt i1 (by omega), ← Int.add_assoc]; exact z.symm
    have ei : atI nn i = some (.str (nm i)) := by rw [hnn]; exact nm_at hm1.2 i1 i2
    have ej : atI nn j = some (.str (nm j)) := by rw [hnn]; exact nm_at hm1.2 hj1.1 hj1.2
    simp -dsimp [hln, hcm, ← hj]
    clear hcm hj w4 r1 r2
    refine wp_drawn d8 (by omega) (by omega) fun w4 o9 d9 s1 s2 => ?_
    simp -dsimp
    refine wp_drawn d9 (by omega) (by omega) fun w5 o10 d10 s3 s4 => ?_
    simp -dsimp
    refine wp_drawn d10 (by omega) (by omega) fun w6 o11 d11 s5 s6 => ?_
    simp -dsimp
    refine wp_drawn d11 (by omega) (by omega) fun w7 o12 d12 s7 s8 => ?_
    obtain ⟨dd, hdd, out, rfl, hout⟩ := pick (xs := [.int (60 * w4), .int (300 + 10 * w5), .int w6]) (v := w7) s7 s8 (fun d => ∃ c, d = .int c ∧ 0 ≤ c ∧ c < 1440) (by
      intro d hd
      simp only [List.mem_cons, List.not_mem_nil, or_false] at hd
      rcases hd with rfl | rfl | rfl
      · exact ⟨_, rfl, by omega, by omega⟩
      · exact ⟨_, rfl, by omega, by omega⟩
      · exact ⟨_, rfl, by omega, by omega⟩)
    simp -dsimp [hdd]
    clear hdd w4 s1 s2 w5 s3 s4 w6 s5 s6 w7 s7 s8 d1 d2 d3 d4 d5 d6 d7 d8 d9 d10 d11
    refine wp_drawn d12 (by omega) (by omega) fun w4 o13 d13 s1 s2 => ?_
    simp -dsimp
    refine wp_drawn d13 (by omega) (by omega) fun w5 o14 d14 s3 s4 => ?_
    simp -dsimp
    refine wp_drawn d14 (by omega) (by omega) fun w6 o15 d15 s5 s6 => ?_
    obtain ⟨dd, hdd, long, rfl, hlong⟩ := pick (xs := [.int 60, .int (20 + 10 * w4), .int (20 + w5)]) (v := w6 / 4) (by omega) (by simp; omega) (fun d => ∃ c, d = .int c ∧ 20 ≤ c ∧ c ≤ 900) (by
      intro d hd
      simp only [List.mem_cons, List.not_mem_nil, or_false] at hd
      rcases hd with rfl | rfl | rfl
      · exact ⟨_, rfl, by omega, by omega⟩
      · exact ⟨_, rfl, by omega, by omega⟩
      · exact ⟨_, rfl, by omega, by omega⟩)
    simp -dsimp [hdd, rngD_map]
    clear hdd w4 s1 s2 w5 s3 s4 w6 s5 s6
    refine wp_compI (f := fun i : Nat => D.int i) (List.range 7) (fun pre2 _ => DyI sc (T ++ [.lst (ls.map Leg.d)]) pre2.length) (by rfl) ⟨o15, [], d15, rfl, rfl, .nil, nofun, by simp⟩ ?_ ?_
    · rintro pre2 k2 rest2 acc2 S2 hp2 ⟨p1, ds, e1, rfl, rfl, y1, y2, y3⟩
      obtain ⟨rfl, hk2⟩ := range_at hp2
      refine ⟨_, rfl, ?_⟩
      simp -dsimp
      refine wp_drawn e1 (by omega) (by omega) fun w4 p2 e2 s1 s2 => ?_
      by_cases hw4 : 0 < w4
      · simp -dsimp [hw4]
        refine ⟨by omega, p2, ds ++ [(pre2.length : Int)], e2, rfl, by simp, ?_, ?_, by simp; omega⟩
        · rw [List.pairwise_append]
          exact ⟨y1, by simp, fun a ha b hb => by rw [List.mem_singleton.mp hb]; exact (y2 a ha).2⟩
        · intro d hd
          rcases List.mem_append.mp hd with hd | hd
          · have := y2 d hd; simp; omega
          · rw [List.mem_singleton.mp hd]; simp; omega
      · simp -dsimp [hw4]
        exact ⟨p2, ds, e2, rfl, rfl, y1, fun d hd => by have := y2 d hd; omega, by omega⟩
    rintro acc2 S2 ⟨p1, ds0, e1, rfl, rfl, y1, y2, y3⟩
    simp at y2 y3
    simp -dsimp
    refine wp_call (Q := DyR sc (T ++ [.lst (ls.map Leg.d)])) ?_ ?_
    · cases ds0 with
      | nil =>
        simp -dsimp
        refine wp_drawn e1 (by omega) (by omega) fun w4 p2 e2 s1 s2 => ?_
        simp -dsimp
        exact ⟨p2, false, [w4], rfl, rfl, e2, .one s1 s2⟩
      | cons a b =>
        simp -dsimp
        exact ⟨p1, true, a :: b, rfl, rfl, e1, by simp, y1, fun d hd => by have := y2 d hd; omega⟩
    clear y1 y2 y3 e1 p1
    rintro dd S2 ⟨p2, db, ds, rfl, rfl, e2, hds⟩
    simp -dsimp
    refine wp_drawn e2 (by omega) (by omega) fun w4 o13 d13 s1 s2 => ?_
    simp -dsimp
    refine wp_drawn d13 (by omega) (by omega) fun w5 o14 d14 s3 s4 => ?_
    simp -dsimp
    refine wp_drawn d14 (by omega) (by omega) fun w6 o15 d15 s5 s6 => ?_
    obtain ⟨dd, hdd, fare, rfl, hfare⟩ := pick (xs := [.int 100, .int (1 + w4), .int (1 + w5)]) (v := w6) (by omega) (by simp; omega) (fun d => ∃ c, d = .int c ∧ 1 ≤ c ∧ c ≤ 100000) (by
      intro d hd
      simp only [List.mem_cons, List.not_mem_nil, or_false] at hd
      rcases hd with rfl | rfl | rfl
      · exact ⟨_, rfl, by omega, by omega⟩
      · exact ⟨_, rfl, by omega, by omega⟩
      · exact ⟨_, rfl, by omega, by omega⟩)
    have hll : ls.length < 1000000 := by omega
    simp -dsimp [hdd, ei, ej, isLstB, bAppend, hll]
    clear hdd w4 s1 s2 w5 s3 s4 w6 s5 s6 e2 d12 d13 d14
    refine wp_drawn d15 (by omega) (by omega) fun w4 o16 d16 s1 s2 => ?_
    obtain ⟨A, hA⟩ : ∃ A : Leg, A = ⟨100 + 7 * pre.length, nm i, nm j, out, long, db, ds, fare⟩ := ⟨_, rfl⟩
    have ok1 : LegOk (six.take m) A := by
      rw [hA]
      exact ⟨⟨by simp; omega, by simp; omega⟩, nm_mem hm1.2 i1 i2, nm_mem hm1.2 hj1.1 hj1.2, nm_ne i1 (by omega) hj1.1 (by omega) hij, hout, hlong, hds.ne, hds.lt, hds.bd, hfare, ⟨by simp only; omega, by simp only; omega⟩⟩
    have hL1 := LegsUpTo.add (t' := 103 + 7 * pre.length) (n' := 2 * pre.length + 1) hL ok1 (by simp [hA]) (by simp [hA]) (by omega)
    simp -dsimp
    refine wpS_ite (fun hw => ?_) (fun hw => ?_)
    · have hll1 : ls.length + 1 < 1000000 := by omega
      simp -dsimp [ei, ej, isLstB, bAppend, hll1]
      obtain ⟨B, hB⟩ : ∃ B : Leg, B = ⟨103 + 7 * pre.length, nm j, nm i, (out + long + 60) % 1440, long, db, ds, fare⟩ := ⟨_, rfl⟩
      have ok2 : LegOk (six.take m) B := by
        rw [hB]
        exact ⟨⟨by simp; omega, by simp; omega⟩, nm_mem hm1.2 hj1.1 hj1.2, nm_mem hm1.2 i1 i2, nm_ne hj1.1 (by omega) i1 (by omega) hij.symm, ⟨Int.emod_nonneg _ (by omega), Int.emod_lt_of_pos _ (by omega)⟩, hlong, hds.ne, hds.lt, hds.bd, hfare, ⟨by simp only; omega, by simp only; omega⟩⟩
      have hL2 := LegsUpTo.add (t' := 100 + 7 * (pre.length + 1 : Nat)) (n' := 2 * (pre.length + 1)) hL1 ok2 (by simp [hB]) (by simp [hB]; omega) (by omega)
      exact ⟨o16, ls ++ [A] ++ [B], [_, _, _, _, _, _, _, _, _], d16, rfl, rfl, by simp [hA, hB, Leg.d], by simpa using hL2, by simp⟩
    · simp -dsimp
      exact ⟨o16, ls ++ [A], [_, _, _, _, _, _, _, _, _], d16, rfl, rfl, by simp [hA, Leg.d], by simpa using hL1.mono (t' := 100 + 7 * (pre.length + 1 : Nat)) (n' := 2 * (pre.length + 1)) (by omega) (by omega), by simp⟩
  · rintro env S ⟨o6, ls, tail, d6, ht, rfl, rfl, hL, hne⟩
    obtain ⟨x4, x5, x6, x7, x8, x9, x10, x11, x12, rfl⟩ := len9 ht
    have hne : ls ≠ [] := hne (by simp; omega)
    simp -dsimp
    refine wp_drawn d6 (by omega) (by omega) fun w4 o16 d16 s1 s2 => ?_
    have hok := netOk_of hL hm1 (by simp; omega) hne hps1 hps2
    by_cases hw : w4 = 0
    · simp -dsimp [hw, fTup_loc]
      exact k ps ls o16 (.lst (ls.map Leg.d)) hok d16
    · simp -dsimp [hw, fTup_loc]
      have := k ps ls.reverse o16 (.lst (ls.map Leg.d)) ⟨hok.names, hok.ch, fun l hl => hok.legs l (List.mem_reverse.mp hl), by rw [List.map_reverse]; exact (List.reverse_perm _).symm.nodup hok.nd, by simpa using hne, by simpa using hok.len, by simpa using hok.few⟩ d16
      unfold netD at this
      rw [List.map_reverse] at this
      exact this
end DL

set_option Elab.async false
set_option linter.all false
set_option maxRecDepth 100000
set_option maxHeartbeats 4000000
/-! N3: the program's looks at nets; Net made. -/
namespace DL
open PySem PySem.Spec PyProof.Rows L2 LamX
theorem eq_of_wp {α : Type} {r : Res α} {v : α} {S0 : Sto} (h : Res.wp r (fun a S' => a = v ∧ S' = S0) NoE) : r = .ok v S0 := by
  cases r with
  | ok a S => rw [wp_ok] at h; obtain ⟨rfl, rfl⟩ := h; rfl
  | exc e S => simp at h
  | stuck => simp at h
theorem exc_of_wp {α : Type} {r : Res α} {v : XV} {S0 : Sto} (h : Res.wp r (fun _ _ => False) (fun a S' => a = v ∧ S' = S0)) : r = .exc v S0 := by
  cases r with
  | exc a S => rw [wp_exc] at h; obtain ⟨rfl, rfl⟩ := h; rfl
  | ok e S => simp at h
  | stuck => simp at h
theorem wp_compI_pure {τ : Type} {g : MG} {tc : MT} {m : ME} {w : En} {f : τ → D} {ds : List D} {S : Sto} {Q : List D → Sto → Prop} {E : XV → Sto → Prop} (xs : List τ) (p : τ → Bool) (v : τ → D) (e : ds = xs.map f) (hl : xs.length ≤ 1000000)
    (hx : ∀ x ∈ xs, ∃ e, g (f x) w S = some (e, S) ∧ tc e S = .ok (p x) S ∧ (p x = true → m e S = .ok (v x) S)) (q : Q ((xs.filter p).map v) S) : Res.wp (compI g tc m w ds [] S) Q E := by
  rw [e, compI_pure xs p v hl hx, wp_ok]; exact q
theorem filter_yes {α : Type} (xs : List α) : xs.filter (fun _ => true) = xs := List.filter_eq_self.mpr fun _ _ => rfl
@[simp] theorem fAll_map {τ : Type} (S : Sto) (xs : List τ) (g : τ → Bool) : fAll S [.lst (xs.map fun x => .bool (g x))] = some (.bool (xs.all g)) := by
  have := fAll_bools S (xs.map g)
  rw [List.map_map] at this
  rw [show (xs.map fun x => D.bool (g x)) = xs.map (D.bool ∘ g) from rfl, this, List.all_map]
  rfl
@[simp] theorem cut_1 {α : Type} (xs : List α) : cutD xs (some 1) none = xs.tail := by
  rw [show (1 : Int) = ((1 : Nat) : Int) from rfl, cut_from, List.drop_one]
theorem zip1_map {τ : Type} (f : τ → D) (xs : List τ) : zipD (xs.map f) (xs.map f).tail = (xs.zip xs.tail).map fun p => D.tup [f p.1, f p.2] := by
  rw [← List.map_tail, zip_map]
theorem lt_zip {xs : List Int} (h : xs.Pairwise (· < ·)) : ∀ p ∈ xs.zip xs.tail, p.1 < p.2 := by
  induction xs with
  | nil => simp
  | cons a xs ih =>
    cases xs with
    | nil => simp
    | cons b xs =>
      intro p hp
      rw [List.tail_cons, List.zip_cons_cons] at hp
      rw [List.pairwise_cons] at h
      rcases List.mem_cons.mp hp with rfl | hp
      · exact h.1 b List.mem_cons_self
      · exact ih h.2 p hp
/-- a whole number between two -/
def isNumD (x : D) (a b : Int) : Bool := match x with
  | .int i => decide (a ≤ i) && decide (i ≤ b)
  | _ => false
theorem isi_eq {S : Sto} {x : D} {t n : String} (h : tyOf S x = some t) (k : knownTy n = true) : fIsi S [x, .ty n] = some (.bool (isTy t n)) := by simp [fIsi, h, k]
@[simp] theorem known_int : knownTy "int" = true := rfl
@[simp] theorem known_bool : knownTy "bool" = true := rfl
@[simp] theorem known_str : knownTy "str" = true := rfl
@[simp] theorem known_tuple : knownTy "tuple" = true := rfl
@[simp] theorem known_list : knownTy "list" = true := rfl
@[simp] theorem known_dict : knownTy "dict" = true := rfl
@[simp] theorem tyo_int (S : Sto) (i : Int) : tyOf S (.int i) = some "int" := rfl
@[simp] theorem tyo_bool (S : Sto) (i : Bool) : tyOf S (.bool i) = some "bool" := rfl
@[simp] theorem tyo_str (S : Sto) (i : Str) : tyOf S (.str i) = some "str" := rfl
@[simp] theorem tyo_tup (S : Sto) (i : List D) : tyOf S (.tup i) = some "tuple" := rfl
@[simp] theorem tyo_tpn (S : Sto) (i : List D) : tyOf S (.tpn i) = some "tuple" := rfl
@[simp] theorem tyo_lst (S : Sto) (i : List D) : tyOf S (.lst i) = some "list" := rfl
@[simp] theorem tyo_none (S : Sto) : tyOf S .none = some "NoneType" := rfl
@[simp] theorem tyo_day (S : Sto) (b : Bool) (l : List Int) : tyOf S (dayD b l) = some "tuple" := by cases b <;> rfl
@[simp] theorem isTy_at (a b : String) : isTy a b = (a == b || (a == "bool" && b == "int")) := rfl
theorem num_eq {S : Sto} {x : D} {t : String} (a b : Int) (h : tyOf S x = some t) : M_is_number [x, .int a, .int b] S = .ok (.bool (isNumD x a b)) S := by
  have st : ∀ t : String, t ≠ "int" → t ≠ "bool" → tyOf S x = some t → isNumD x a b = false → M_is_number [x, .int a, .int b] S = .ok (.bool (isNumD x a b)) S := by
    intro t h1 h2 h3 h4
    simp [M_is_number, b_is_number, fIsi, h3, h1, h2, h4]
  cases x with
  | int i =>
    by_cases h1 : a ≤ i <;> by_cases h2 : i ≤ b <;> simp [M_is_number, b_is_number, fIsi, isNumD, h1, h2]
  | bool i => simp [M_is_number, b_is_number, fIsi, isNumD]
  | none => cases h; exact st _ (by decide) (by decide) rfl rfl
  | str => cases h; exact st _ (by decide) (by decide) rfl rfl
  | tup => cases h; exact st _ (by decide) (by decide) rfl rfl
  | tpn => cases h; exact st _ (by decide) (by decide) rfl rfl
  | lst => cases h; exact st _ (by decide) (by decide) rfl rfl
  | loc l =>
    simp only [tyOf] at h
    refine st t ?_ ?_ (by simp only [tyOf]; exact h) rfl
    · rintro rfl; split at h <;> simp at h
    · rintro rfl; split at h <;> simp at h
  | ty => cases h
  | ro => cases h
  | glo => cases h
  | adr => cases h
  | clo => cases h
@[simp] theorem num_int (S : Sto) (i a b : Int) : M_is_number [.int i, .int a, .int b] S = .ok (.bool (decide (a ≤ i) && decide (i ≤ b))) S := num_eq a b rfl
theorem days_eq {S : Sto} {b : Bool} {ds : List Int} (h : DaysOk ds) (hl : ds.length ≤ 1000000) : M_are_days [dayD b ds] S = .ok (.bool true) S := by
  have hne : ∃ a l, ds = a :: l := by
    cases ds with
    | nil => exact absurd rfl h.ne
    | cons a l => exact ⟨a, l, rfl⟩
  have hp : peqAll (ds.map D.int) [] = false := by
    obtain ⟨a, l, rfl⟩ := hne
    simp
  have h1 : iterD S (dayD b ds) = some (.items (ds.map D.int)) := by cases b <;> simp [dayD]
  have h2 : dok 60 (dayD b ds) = true := by
    have := Enc.int.all
    cases b <;> simp [dayD]
  have h3 : peq (.tup (ds.map D.int)) (.tup []) = false := by simp [hp]
  have h32 : dok 60 (.tup (ds.map D.int)) = true := by simp
  obtain ⟨d', e', hd'⟩ := vt_cut (d := dayD b ds) (xs := ds.map D.int) (by cases b <;> simp [dayD]) (some 1) none
  have h4 : view0 S (dayD b ds) = dayD b ds := by cases b <;> rfl
  have h5 : vt d' = .tup (ds.map D.int).tail := by rw [← cut_1]; rcases hd' with rfl | rfl <;> rfl
  apply eq_of_wp
  unfold M_are_days
  apply wp_body
  unfold b_are_days
  simp -dsimp [fIsi, h2, h3, h1, hp, e', h4, h5, zip1_map]
  refine wp_compI_pure (f := D.int) ds (fun _ => true) (fun i => .bool (decide (0 ≤ i) && decide (i ≤ 6))) rfl hl (fun x hx => ⟨_, rfl, rfl, fun _ => by simp⟩) ?_
  rw [filter_yes]
  have ha : (ds.all fun i => decide (0 ≤ i) && decide (i ≤ 6)) = true := by
    rw [List.all_eq_true]
    intro x hx
    simp [h.bd x hx]
  simp -dsimp [ha, e', h4, h5, zip1_map]
  refine wp_compI_pure (f := fun p : Int × Int => D.tup [.int p.1, .int p.2]) (ds.zip ds.tail) (fun _ => true) (fun p => .bool (decide (p.1 < p.2))) rfl (by simp; omega) (fun x hx => ⟨_, rfl, rfl, fun _ => by simp⟩) ?_
  rw [filter_yes]
  have hb : ((ds.zip ds.tail).all fun p => decide (p.1 < p.2)) = true := by
    rw [List.all_eq_true]
    intro p hp
    simp [lt_zip h.lt p hp]
  simp -dsimp [hb]
end DL

set_option Elab.async false
set_option linter.all false
set_option maxRecDepth 100000
set_option maxHeartbeats 4000000
/-! N4: need_net lets by the nets that are drawn; Net made. -/
namespace DL
open PySem PySem.Spec PyProof.Rows L2 LamX
theorem zipIdx_at {τ : Type} {ps : List τ} {pre rest : List (τ × Nat)} {x : τ × Nat} (h : pre ++ x :: rest = ps.zipIdx) : x.2 = pre.length ∧ ps = pre.map (·.1) ++ x.1 :: rest.map (·.1) := by
  have h1 := congrArg (fun l => l.map (·.1)) h
  have h2 := congrArg (fun l => l[pre.length]?) h
  simp at h1 h2
  refine ⟨?_, h1.symm⟩
  obtain ⟨a, ha, e⟩ := Option.map_eq_some_iff.mp h2.symm
  rw [← e]
def letters : List Nat := (("abcdefghijklmnopqrstuvwxyz" : Str)).cps.toList
/-- a text of so many letters -/
def isWordS (x : Str) (a b : Int) : Bool := (decide (a ≤ x.length) && decide ((x.length : Int) ≤ b)) && x.cps.toList.all (fun c => decide (c ∈ letters))
theorem word_eq {S : Sto} {x : Str} (a b : Int) (hx : x.length ≤ 1000000) : M_is_word [.str x, .int a, .int b] S = .ok (.bool (isWordS x a b)) S := by
  have hl : fLen S [.str x] = some (.int x.length) := by simp [fLen, hx]
  have hi : iterD S (.str x) = some (.items (x.cps.toList.map fun c => D.str ⟨#[c]⟩)) := by simp [iterD, hx, signs]
  apply eq_of_wp
  unfold M_is_word
  apply wp_body
  unfold b_is_word
  by_cases h1 : a ≤ x.length
  · by_cases h2 : (x.length : Int) ≤ b
    · simp -dsimp [fIsi, hl, h1, h2, hi]
      refine wp_compI_pure (f := fun c => D.str ⟨#[c]⟩) x.cps.toList (fun _ => true) (fun c => .bool (decide (c ∈ letters))) rfl (by simpa [Str.length] using hx) (fun c hc => ⟨[some (.str x), some (.int a), some (.int b), some (.str ⟨#[c]⟩)], rfl, rfl, fun _ => ?_⟩) ?_
      · simp [dIn, letters]
      · rw [filter_yes]
        simp -dsimp
        simp [isWordS, h1, h2]
    · simp -dsimp [fIsi, hl, h1, h2]
      simp [isWordS, h1, h2]
  · simp -dsimp [fIsi, hl, h1]
    simp [isWordS, h1]
theorem six_word : ∀ x ∈ six, isWordS x 3 3 = true ∧ x.length ≤ 1000000 ∧ PyData.strOk x = true := by decide +kernel
theorem any_false {xs : List D} {a : D} (h : ∀ z ∈ xs, peq z a = false) : (xs.any fun z => peq z a) = false := by
  rw [List.any_eq_false]
  intro z hz
  rw [h z hz]; simp
theorem notin_lst {S : Sto} {a : D} {xs : List D} (h1 : dok 60 a = true) (h2 : ∀ x ∈ xs, dok 59 x = true) (h : ∀ z ∈ xs, peq z a = false) : dIn S a (.lst xs) = some false := by
  simp only [dIn, view_lst, h1, dok_lst60, List.all_eq_true.mpr h2, any_false h]
  rfl
theorem in_lst {S : Sto} {a : D} {xs : List D} (h1 : dok 60 a = true) (h2 : ∀ x ∈ xs, dok 59 x = true) (h : ∃ z ∈ xs, peq z a = true) : dIn S a (.lst xs) = some true := by
  have : (xs.any fun z => peq z a) = true := List.any_eq_true.mpr h
  simp only [dIn, view_lst, h1, dok_lst60, List.all_eq_true.mpr h2, this]
  rfl
theorem place_eq {S : Sto} {p : Str × Int} {pre : List (Str × Int)} {A : D} (hn : p.1 ∈ six) (hpre : ∀ q ∈ pre, q.1 ∈ six) (hnot : p.1 ∉ pre.map (·.1)) (hc : 10 ≤ p.2 ∧ p.2 ≤ 300) (hl : pre.length ≤ 1000000) (hA : A = .tup (pre.map placeD) ∨ A = .tpn (pre.map placeD)) : M_is_place [placeD p, A] S = .ok (.bool true) S := by
  have hw := six_word _ hn
  have hi : iterD S A = some (.items (pre.map placeD)) := by rcases hA with rfl | rfl <;> simp
  apply eq_of_wp
  unfold M_is_place
  apply wp_body
  unfold b_is_place
  simp -dsimp [fIsi, placeD, word_eq, hw, hi]
  refine wp_compI_pure (f := placeD) pre (fun _ => true) (fun q => .str q.1) (by rfl) hl (fun q hq => ⟨_, rfl, rfl, fun _ => rfl⟩) ?_
  rw [filter_yes]
  have := notin_lst (S := S) (a := .str p.1) (xs := pre.map fun q => D.str q.1) (by simp [hw]) (fun x hx => by
    obtain ⟨q, hq, rfl⟩ := List.mem_map.mp hx
    simp [six_word _ (hpre q hq)]) (fun z hz => by
    obtain ⟨q, hq, rfl⟩ := List.mem_map.mp hz
    simp only [peq_str, decide_eq_false_iff_not]
    exact fun e => hnot (List.mem_map.mpr ⟨q, hq, e⟩))
  simp -dsimp [this, hc]
theorem isnum_leg {i a b : Int} (h : a ≤ i ∧ i ≤ b) : (decide (a ≤ i) && decide (i ≤ b)) = true := by simp [h]
theorem leg_eq {S : Sto} {l : Leg} {pre : List Leg} {names : List Str} {A : D} (h : LegOk names l) (hns : ∀ x ∈ names, x ∈ six) (hnot : l.num ∉ pre.map (·.num)) (hl : pre.length ≤ 1000000) (hd : l.days.length ≤ 1000000) (hA : A = .tup (pre.map Leg.d) ∨ A = .tpn (pre.map Leg.d)) : M_is_leg [l.d, A, .lst (names.map D.str)] S = .ok (.bool true) S := by
  have hi : iterD S A = some (.items (pre.map Leg.d)) := by rcases hA with rfl | rfl <;> simp
  have hws := six_word _ (hns _ h.s)
  have hwg := six_word _ (hns _ h.g)
  apply eq_of_wp
  unfold M_is_leg
  apply wp_body
  unfold b_is_leg
  have hnum : 1 ≤ l.num ∧ l.num ≤ 9999 := h.num
  simp -dsimp [fIsi, Leg.d, hnum, hi]
  refine wp_compI_pure (f := Leg.d) pre (fun _ => true) (fun q => .int q.num) (by rfl) hl (fun q hq => ⟨_, rfl, rfl, fun _ => by simp [Leg.d]⟩) ?_
  rw [filter_yes]
  have h1 := notin_lst (S := S) (a := .int l.num) (xs := pre.map fun q => D.int q.num) (by simp) (fun x hx => by
    obtain ⟨q, hq, rfl⟩ := List.mem_map.mp hx
    simp) (fun z hz => by
    obtain ⟨q, hq, rfl⟩ := List.mem_map.mp hz
    simp only [peq_int, decide_eq_false_iff_not]
    exact fun e => hnot (List.mem_map.mpr ⟨q, hq, e⟩))
  have hnd : ∀ x ∈ names.map D.str, dok 59 x = true := fun x hx => by
    obtain ⟨q, hq, rfl⟩ := List.mem_map.mp hx
    simp [six_word _ (hns q hq)]
  have h2 := in_lst (S := S) (a := .str l.start) (xs := names.map D.str) (by simp [hws]) hnd ⟨.str l.start, List.mem_map.mpr ⟨_, h.s, rfl⟩, by simp⟩
  have h3 := in_lst (S := S) (a := .str l.goal) (xs := names.map D.str) (by simp [hwg]) hnd ⟨.str l.goal, List.mem_map.mpr ⟨_, h.g, rfl⟩, by simp⟩
  have h4 := h.ne
  have h5 := days_eq (S := S) (b := l.db) ⟨h.dne, h.dlt, h.dbd⟩ hd
  have h6 : l.out ≤ 1439 := by have := h.out; omega
  simp -dsimp [fIsi, h1, h2, h3, h4, h5, h6, hws, hwg, h.out, h.long, h.fare]
theorem days_len_from : ∀ {ds : List Int} {lo : Int}, ds.Pairwise (· < ·) → (∀ d ∈ ds, lo ≤ d ∧ d ≤ 6) → lo ≤ 7 → (ds.length : Int) ≤ 7 - lo
  | [], lo, _, _, h => by simp; omega
  | a :: ds, lo, h1, h2, h => by
    rw [List.pairwise_cons] at h1
    have ha := h2 a List.mem_cons_self
    have := days_len_from (lo := a + 1) h1.2 (fun d hd => ⟨by have := h1.1 d hd; omega, (h2 d (List.mem_cons_of_mem _ hd)).2⟩) (by omega)
    simp
    omega
theorem days_len {ds : List Int} (h1 : ds.Pairwise (· < ·)) (h2 : ∀ d ∈ ds, 0 ≤ d ∧ d ≤ 6) : ds.length ≤ 7 := by
  have := days_len_from h1 h2 (by omega)
  omega
theorem NetOk.sub {ps : List (Str × Int)} {ls : List Leg} (h : NetOk ps ls) : ∀ x ∈ ps.map (·.1), x ∈ six := by
  obtain ⟨n, _, _, e⟩ := h.names
  rw [e]
  exact fun x hx => List.mem_of_mem_take hx
theorem NetOk.pnd {ps : List (Str × Int)} {ls : List Leg} (h : NetOk ps ls) : (ps.map (·.1)).Nodup := by
  obtain ⟨n, _, h6, e⟩ := h.names
  rw [e]
  exact (six_take h6).2
theorem NetOk.plen {ps : List (Str × Int)} {ls : List Leg} (h : NetOk ps ls) : 2 ≤ ps.length ∧ ps.length ≤ 6 := by
  obtain ⟨n, h2, h6, e⟩ := h.names
  have := congrArg List.length e
  rw [List.length_map, (six_take h6).1] at this
  omega
theorem need_eq {S : Sto} {ps : List (Str × Int)} {ls : List Leg} (h : NetOk ps ls) : M_need_net [netD ps ls] S = .ok .none S := by
  have hpl := h.plen
  have hll := h.len
  apply eq_of_wp
  unfold M_need_net
  apply wp_body
  unfold b_need_net
  have hp : peqAll (ps.map placeD) [] = false := by
    cases ps with
    | nil => simp at hpl
    | cons a l => simp
  have hpk : dok 60 (.tpn (ps.map placeD)) = true := by
    simp only [dok_tpn60, List.all_map, List.all_eq_true]
    intro p hp
    simp [placeD, six_word _ (h.sub p.1 (List.mem_map.mpr ⟨p, hp, rfl⟩))]
  have hpk2 : dok 60 (.tup (ps.map placeD)) = true := hpk
  simp -dsimp [netD, fIsi, hp, hpk2, enum_map]
  refine wp_for (f := fun p : (Str × Int) × Nat => D.tup [.int (p.2 : Nat), placeD p.1]) ps.zipIdx (fun _ _ env S' => S' = S ∧ ∃ x3 x4 x5 x6 x7 x8, env = [some (netD ps ls), some (.tpn (ps.map placeD)), some (.tpn (ls.map Leg.d)), x3, x4, x5, x6, x7, x8]) rfl ⟨rfl, _, _, _, _, _, _, rfl⟩ ?_ ?_
  · rintro pre x rest env S' hpre ⟨rfl, x3, x4, x5, x6, x7, x8, rfl⟩
    obtain ⟨e1, e2⟩ := zipIdx_at hpre
    refine ⟨_, rfl, ?_⟩
    obtain ⟨d', c1, c2⟩ := vt_cut (d := .tpn (ps.map placeD)) (xs := ps.map placeD) (.inr rfl) none (some (x.2 : Nat))
    have hq : ps.take x.2 = pre.map (·.1) := by
      rw [e1, e2, List.take_left' (by simp)]
    rw [cut_to, ← List.map_take, hq] at c2
    have hm : x.1 ∈ ps := by rw [e2]; simp
    have hnd := h.pnd
    rw [e2] at hnd
    have hx12 : ¬ ((x.2 : Int) = 12) := by
      have := congrArg List.length e2
      simp at this
      omega
    have hpe := place_eq (S := S') (p := x.1) (pre := pre.map (·.1)) (A := d') (h.sub _ (List.mem_map.mpr ⟨_, hm, rfl⟩)) (fun q hq => h.sub _ (List.mem_map.mpr ⟨q, by rw [e2]; exact List.mem_append_left _ hq, rfl⟩)) (fun z => by
      rw [List.map_append, List.nodup_append] at hnd
      exact hnd.2.2 _ z _ (by simp) rfl) (h.ch _ hm) (by have := congrArg List.length e2; simp at this ⊢; omega) c2
    simp -dsimp [hx12, c1, hpe]
  · rintro env S' ⟨rfl, x3, x4, x5, x6, x7, x8, rfl⟩
    simp -dsimp [fIsi]
    refine wp_compI_pure (f := placeD) ps (fun _ => true) (fun q => .str q.1) (by rfl) (by omega) (fun q hq => ⟨_, rfl, rfl, fun _ => rfl⟩) ?_
    rw [filter_yes]
    have e : (ps.map fun q => D.str q.1) = (ps.map (·.1)).map D.str := by rw [List.map_map]; rfl
    rw [e]
    obtain ⟨nn, hnn⟩ : ∃ nn, nn = (ps.map (·.1)).map D.str := ⟨_, rfl⟩
    rw [← hnn]
    simp -dsimp [enum_map]
    refine wp_for (f := fun p : Leg × Nat => D.tup [.int (p.2 : Nat), p.1.d]) ls.zipIdx (fun _ _ env S'' => S'' = S' ∧ ∃ x3 x4 x6 x7 x8, env = [some (netD ps ls), some (.tpn (ps.map placeD)), some (.tpn (ls.map Leg.d)), x3, x4, some (.lst nn), x6, x7, x8]) rfl ⟨rfl, _, _, _, _, _, rfl⟩ ?_ ?_
    · rintro pre x rest env S'' hpre ⟨rfl, x3, x4, x6, x7, x8, rfl⟩
      obtain ⟨e1, e2⟩ := zipIdx_at hpre
      refine ⟨_, rfl, ?_⟩
      obtain ⟨d', c1, c2⟩ := vt_cut (d := .tpn (ls.map Leg.d)) (xs := ls.map Leg.d) (.inr rfl) none (some (x.2 : Nat))
      have hq : ls.take x.2 = pre.map (·.1) := by
        rw [e1, e2, List.take_left' (by simp)]
      rw [cut_to, ← List.map_take, hq] at c2
      have hm : x.1 ∈ ls := by rw [e2]; simp
      have hnd := h.nd
      rw [e2] at hnd
      have hx12 : ¬ ((x.2 : Int) = 60) := by
        have := congrArg List.length e2
        simp at this
        omega
      have hok := h.legs _ hm
      have hpe := leg_eq (S := S'') (l := x.1) (pre := pre.map (·.1)) (A := d') hok h.sub (fun z => by
        rw [List.map_append, List.nodup_append] at hnd
        exact hnd.2.2 _ z _ (by simp) rfl) (by have := congrArg List.length e2; simp at this ⊢; omega) (by have := days_len hok.dlt hok.dbd; omega) c2
      rw [← hnn] at hpe
      simp -dsimp [hx12, c1, hpe]
    · rintro env S'' ⟨rfl, x3, x4, x6, x7, x8, rfl⟩
      exact ⟨rfl, rfl⟩
end DL

set_option Elab.async false
set_option linter.all false
set_option maxRecDepth 100000
set_option maxHeartbeats 4000000
/-! N5: Net made; its methods. -/
namespace DL
open PySem PySem.Spec PyProof.Rows L2 LamX
theorem pairs_places (ps : List (Str × Int)) : pairsOf (ps.map placeD) = some (ps.map fun p => (.str p.1, .int p.2)) := by
  induction ps with
  | nil => rfl
  | cons p ps ih => simp [pairsOf, pairOf, placeD, ih]
theorem put_new {acc : List (D × D)} {k v : D} (h : ∀ p ∈ acc, keyOf p.1 ≠ keyOf k) : dPut false acc k v = acc ++ [(k, v)] := by
  unfold dPut
  rw [if_neg]
  simp only [List.any_eq_true, not_exists, not_and]
  intro p hp
  simp [keq, h p hp]
theorem putAll_new : ∀ (ps acc : List (D × D)), (ps.map fun p => keyOf p.1).Nodup → (∀ p ∈ acc, ∀ q ∈ ps, keyOf p.1 ≠ keyOf q.1) → putAll acc ps = acc ++ ps
  | [], acc, _, _ => by simp [putAll]
  | q :: ps, acc, nd, h => by
    rw [List.map_cons, List.nodup_cons] at nd
    unfold putAll
    rw [put_new fun p hp => h p hp q List.mem_cons_self, putAll_new ps _ nd.2 fun p hp r hr => ?_]
    · simp
    · rcases List.mem_append.mp hp with hp | hp
      · exact h p hp r (List.mem_cons_of_mem _ hr)
      · rw [List.mem_singleton.mp hp]
        exact fun e => nd.1 (List.mem_map.mpr ⟨r, hr, e.symm⟩)
/-- {k: v for ..} by new keys -/
theorem wp_compDI {τ : Type} {g : MG} {tc : MT} {mk mv : ME} {w : En} {f : τ → D} {ds : List D} {S : Sto} {Q : List (D × D) → Sto → Prop} {E : XV → Sto → Prop} (xs : List τ) (k v : τ → D) (e : ds = xs.map f) (hl : xs.length ≤ 1000000) (nd : (xs.map fun x => keyOf (k x)).Nodup)
    (hx : ∀ x ∈ xs, ∃ e, g (f x) w S = some (e, S) ∧ tc e S = .ok true S ∧ mk e S = .ok (k x) S ∧ mv e S = .ok (v x) S ∧ keyOk false (k x) = true) (q : Q (xs.map fun x => (k x, v x)) S) : Res.wp (compDI g tc mk mv w ds [] S) Q E := by
  subst e
  have loop : ∀ (rest : List τ) (acc : List (D × D)), (∀ x ∈ rest, x ∈ xs) → acc.length + rest.length ≤ 1000000 → (rest.map fun x => keyOf (k x)).Nodup → (∀ p ∈ acc, ∀ x ∈ rest, keyOf p.1 ≠ keyOf (k x)) → compDI g tc mk mv w (rest.map f) acc S = .ok (acc ++ rest.map fun x => (k x, v x)) S := by
    intro rest
    induction rest with
    | nil => intro acc _ _ _ _; simp [compDI]
    | cons x rest ih =>
      intro acc hm hl nd hn
      obtain ⟨e, e1, e2, e3, e4, e5⟩ := hx x (hm x List.mem_cons_self)
      rw [List.length_cons] at hl
      rw [List.map_cons, List.nodup_cons] at nd
      rw [List.map_cons]
      unfold compDI turnDC
      have ha : acc.length < 1000000 := by omega
      simp only [e1, e2, e3, e4, e5, bindS_ok, if_true, ha, and_self]
      rw [put_new fun p hp => hn p hp x List.mem_cons_self, ih _ (fun y hy => hm y (List.mem_cons_of_mem _ hy)) (by simp; omega) nd.2 fun p hp y hy => ?_]
      · simp
      · rcases List.mem_append.mp hp with hp | hp
        · exact hn p hp y (List.mem_cons_of_mem _ hy)
        · rw [List.mem_singleton.mp hp]
          exact fun e => nd.1 (List.mem_map.mpr ⟨y, hy, e.symm⟩)
  rw [loop xs [] (fun _ h => h) (by simpa using hl) nd nofun, wp_ok]
  simpa using q
/-- what a new net lays -/
def netO (n : Nat) (ps : List (Str × Int)) (ls : List Leg) : Sto := [.ins "Net" [("changes", .loc (n + 1)), ("legs", .loc (n + 2))], .dct false (ps.map fun p => (.str p.1, .int p.2)), .dct false (ls.map fun x => (.int x.num, x.d))]
theorem nodup_keys {τ : Type} {xs : List τ} {k : τ → D} {κ : Type} {i : τ → κ} (h : (xs.map i).Nodup) (hk : ∀ x y, keyOf (k x) = keyOf (k y) → i x = i y) : (xs.map fun x => keyOf (k x)).Nodup := by
  induction xs with
  | nil => simp
  | cons x xs ih =>
    rw [List.map_cons, List.nodup_cons] at h ⊢
    refine ⟨fun z => ?_, ih h.2⟩
    obtain ⟨y, hy, e⟩ := List.mem_map.mp z
    exact h.1 (List.mem_map.mpr ⟨y, hy, hk _ _ e⟩)
theorem init_eq {S : Sto} {ps : List (Str × Int)} {ls : List Leg} (h : NetOk ps ls) : M_Net_init__ [.loc S.length, netD ps ls] (S ++ [.ins "Net" []]) = .ok .none (S ++ netO S.length ps ls) := by
  have hpl := h.plen
  have hll := h.len
  apply eq_of_wp
  unfold M_Net_init__
  apply wp_body
  unfold b_Net_init__
  have hg : ∀ x : O, (S ++ [x])[S.length]? = some x := fun x => by simp
  have hg2 : ∀ x y : O, (S ++ [x, y])[S.length]? = some x := fun x y => by simp
  have hg3 : ∀ x y z : O, (S ++ [x, y, z])[S.length]? = some x := fun x y z => by simp
  have hs2 : ∀ x y z : O, (S ++ [x, y]).set S.length z = S ++ [z, y] := fun x y z => by rw [List.set_append_right _ _ (Nat.le_refl _)]; simp
  have hs3 : ∀ x y u z : O, (S ++ [x, y, u]).set S.length z = S ++ [z, y, u] := fun x y u z => by rw [List.set_append_right _ _ (Nat.le_refl _)]; simp
  have hpa : putAll [] (ps.map fun p => (D.str p.1, D.int p.2)) = ps.map fun p => (D.str p.1, D.int p.2) := by
    have := putAll_new (ps.map fun p => (D.str p.1, D.int p.2)) [] (by
      rw [List.map_map]
      exact nodup_keys (k := fun p : Str × Int => D.str p.1) (i := (·.1)) h.pnd fun x y e => by simpa [keyOf] using e) nofun
    simpa using this
  simp -dsimp [need_eq h]
  simp -dsimp [netD, pairs_places, hpa]
  rw [if_pos (by omega)]
  simp -dsimp [hg2, hs2, putD]
  refine wp_compDI (f := Leg.d) ls (fun l => .int l.num) Leg.d rfl (by omega) (nodup_keys (i := (·.num)) h.nd fun x y e => by simpa [keyOf] using e) (fun x hx => ⟨_, rfl, rfl, by simp [Leg.d], by simp, rfl⟩) ?_
  simp -dsimp [hg3, hs3, putD, netO]
theorem netAt_new {S : Sto} {ps : List (Str × Int)} {ls : List Leg} : NetAt (S ++ netO S.length ps ls) S.length ps ls :=
  ⟨⟨S.length + 1, S.length + 2, by simp [netO], by simp [netO], by simp [netO]⟩⟩
section
variable {S : Sto} {l : Nat} {ps : List (Str × Int)} {ls : List Leg} {r : Ride}
theorem look_leg (h : HasLeg ls r.2) : dLook false (ls.map fun x => (.int x.num, x.d)) (.int r.2) = some (legOf ls r.2).d := by
  rw [look_int, legOf_find h]; rfl
theorem mleave_l (N : NetL S l ls) (h : HasLeg ls r.2) : M_Net_leave [.loc l, rideD r] S = .ok (.int (rLeave ls r)) S := by
  obtain ⟨c, g, h1, h3⟩ := N.ex
  apply eq_of_wp
  unfold M_Net_leave
  apply wp_body
  unfold b_Net_leave
  simp -dsimp [rideD, h1, fIx_of h3, look_leg h]
  simp -dsimp [Leg.d, rLeave]
theorem mleave_eq (N : NetAt S l ps ls) (h : HasLeg ls r.2) : M_Net_leave [.loc l, rideD r] S = .ok (.int (rLeave ls r)) S := mleave_l N.l h
theorem mgoal_l (N : NetL S l ls) (h : HasLeg ls r.2) : M_Net_goal [.loc l, rideD r] S = .ok (.str (rGoal ls r)) S := by
  obtain ⟨c, g, h1, h3⟩ := N.ex
  apply eq_of_wp
  unfold M_Net_goal
  apply wp_body
  unfold b_Net_goal
  simp -dsimp [rideD, h1, fIx_of h3, look_leg h]
  simp -dsimp [Leg.d, rGoal]
theorem mgoal_eq (N : NetAt S l ps ls) (h : HasLeg ls r.2) : M_Net_goal [.loc l, rideD r] S = .ok (.str (rGoal ls r)) S := mgoal_l N.l h
theorem mstart_l (N : NetL S l ls) (h : HasLeg ls r.2) : M_Net_start [.loc l, rideD r] S = .ok (.str (rStart ls r)) S := by
  obtain ⟨c, g, h1, h3⟩ := N.ex
  apply eq_of_wp
  unfold M_Net_start
  apply wp_body
  unfold b_Net_start
  simp -dsimp [rideD, h1, fIx_of h3, look_leg h]
  simp -dsimp [Leg.d, rStart]
theorem mstart_eq (N : NetAt S l ps ls) (h : HasLeg ls r.2) : M_Net_start [.loc l, rideD r] S = .ok (.str (rStart ls r)) S := mstart_l N.l h
theorem mlong_l (N : NetL S l ls) (h : HasLeg ls r.2) : M_Net_long [.loc l, rideD r] S = .ok (.int (rLong ls r)) S := by
  obtain ⟨c, g, h1, h3⟩ := N.ex
  apply eq_of_wp
  unfold M_Net_long
  apply wp_body
  unfold b_Net_long
  simp -dsimp [rideD, h1, fIx_of h3, look_leg h]
  simp -dsimp [Leg.d, rLong]
theorem mlong_eq (N : NetAt S l ps ls) (h : HasLeg ls r.2) : M_Net_long [.loc l, rideD r] S = .ok (.int (rLong ls r)) S := mlong_l N.l h
theorem marrive_l (N : NetL S l ls) (h : HasLeg ls r.2) : M_Net_arrive [.loc l, rideD r] S = .ok (.int (rArrive ls r)) S := by
  obtain ⟨c, g, h1, h3⟩ := N.ex
  apply eq_of_wp
  unfold M_Net_arrive
  apply wp_body
  unfold b_Net_arrive
  simp -dsimp [h1, mleave_l N h, mlong_l N h]
  simp [rArrive]
theorem marrive_eq (N : NetAt S l ps ls) (h : HasLeg ls r.2) : M_Net_arrive [.loc l, rideD r] S = .ok (.int (rArrive ls r)) S := marrive_l N.l h
theorem mgoes_l (N : NetL S l ls) {d : Int} {n : Int} (hh : HasLeg ls n) (hd : ∀ l ∈ ls, l.days.length ≤ 1000) : M_Net_goes [.loc l, .int d, .int n] S = .ok (.bool (decide (0 ≤ d ∧ d ≤ 60 ∧ d % 7 ∈ (legOf ls n).days))) S := by
  obtain ⟨c, g, h1, h3⟩ := N.ex
  apply eq_of_wp
  unfold M_Net_goes
  apply wp_body
  unfold b_Net_goes
  have lk : dLook false (ls.map fun x => (.int x.num, x.d)) (.int n) = some (legOf ls n).d := by
    rw [look_int, legOf_find hh]; rfl
  have hin : dIn S (.int n) (.loc g) = some true := by rcases dctOf_some h3 with h3 | h3 <;> simp [dIn, h3, lk]
  have hin2 : dIn S (.int (d % 7)) (dayD (legOf ls n).db (legOf ls n).days) = some (decide (d % 7 ∈ (legOf ls n).days)) := by
    simp only [dIn, dayD_view]
    have : (((legOf ls n).days.map D.int).any fun z => peq z (.int (d % 7))) = decide (d % 7 ∈ (legOf ls n).days) := by
      rw [Bool.eq_iff_iff]; simp [List.any_eq_true]
    rw [this]
    simp
  by_cases c1 : 0 ≤ d
  · by_cases c2 : d ≤ 60
    · simp -dsimp [c1, c2, h1, hin]
      simp -dsimp [h1, fIx_of h3, lk]
      simp -dsimp [Leg.d, hin2]
      simp [c1, c2]
    · simp -dsimp [c1, c2]
  · simp -dsimp [c1]
theorem need_ride_eq (N : NetAt S l ps ls) (h : rGoes ls r) (hn : 1 ≤ r.2 ∧ r.2 ≤ 9999) : M_Net_need_ride [.loc l, rideD r] S = .ok .none S := by
  obtain ⟨c, g, h1, h2, h3⟩ := N.ex
  obtain ⟨g1, g2, g3, g4⟩ := h
  have hgo : M_Net_goes [.loc l, .int r.1, .int r.2] S = .ok (.bool true) S := by
    apply eq_of_wp
    unfold M_Net_goes
    apply wp_body
    unfold b_Net_goes
    have hin : dIn S (.int r.2) (.loc g) = some true := by simp [dIn, h3, look_leg g3]
    have hin2 : dIn S (.int (r.1 % 7)) (dayD (legOf ls r.2).db (legOf ls r.2).days) = some true := by
      simp [dIn, g4]
    simp -dsimp [g1, g2, h1, hin]
    simp -dsimp [h1, fIx_dct h3, look_leg g3]
    simp -dsimp [Leg.d, hin2]
  apply eq_of_wp
  unfold M_Net_need_ride
  apply wp_body
  unfold b_Net_need_ride
  simp -dsimp [rideD, fIsi, hn, h1, hgo]
end
end DL

set_option Elab.async false
set_option linter.all false
set_option maxRecDepth 100000
set_option maxHeartbeats 4000000
/-! N6: the law's own legs, times and rides. -/
namespace DL
open PySem PySem.Spec PyProof.Rows L2 LamX
section
variable {S : Sto} {ps : List (Str × Int)} {ls : List Leg} {r : Ride}
theorem wp_legs {env : En} {g : MG} {tc : MT} {m : ME} {Q : List D → Sto → Prop} {E : XV → Sto → Prop} (nd : (ls.map (·.num)).Nodup) (hl : ls.length ≤ 1000000) (h : HasLeg ls r.2)
    (hx : ∀ x ∈ ls, ∃ e, g x.d env S = some (e, S) ∧ tc e S = .ok (decide (x.num = r.2)) S ∧ m e S = .ok x.d S) (q : Q [(legOf ls r.2).d] S) : Res.wp (compI g tc m env (ls.map Leg.d) [] S) Q E := by
  refine wp_compI_pure (f := Leg.d) ls (fun l => decide (l.num = r.2)) Leg.d rfl hl (fun x h => ?_) ?_
  · obtain ⟨e, e1, e2, e3⟩ := hx x h
    exact ⟨e, e1, e2, fun _ => e3⟩
  · rw [legs_with nd h]; exact q
theorem law_leg_eq (nd : (ls.map (·.num)).Nodup) (hl : ls.length ≤ 1000000) (h : HasLeg ls r.2) : M_law_leg [netD ps ls, rideD r] S = .ok (legOf ls r.2).d S := by
  apply eq_of_wp
  unfold M_law_leg
  apply wp_body
  unfold b_law_leg
  simp -dsimp [netD]
  refine wp_legs nd hl h ?_ ?_
  · exact fun x hx => ⟨_, rfl, by simp [Leg.d, rideD], by simp⟩
  simp -dsimp
theorem law_leave_eq (nd : (ls.map (·.num)).Nodup) (hl : ls.length ≤ 1000000) (h : HasLeg ls r.2) : M_law_leave [netD ps ls, rideD r] S = .ok (.int (rLeave ls r)) S := by
  apply eq_of_wp
  unfold M_law_leave
  apply wp_body
  unfold b_law_leave
  simp -dsimp [rideD]
  simp -dsimp [netD]
  refine wp_legs nd hl h ?_ ?_
  · exact fun x hx => ⟨_, rfl, by simp [Leg.d, rideD], by simp⟩
  simp -dsimp
  simp -dsimp [Leg.d, rLeave]
  omega
/-- (leave, number, day) of what goes on n days from a first one on -/
def rawRides (ls : List Leg) (first : Int) (n : Nat) : List (Int × Int × Int) := (List.range n).flatMap fun i : Nat => (ls.filter fun l => decide ((first + i) % 7 ∈ l.days)).map fun l => (1440 * (first + i) + l.out, l.num, first + i)
theorem raw_succ (ls : List Leg) (first : Int) (n : Nat) : rawRides ls first (n + 1) = rawRides ls first n ++ (ls.filter fun l => decide ((first + n) % 7 ∈ l.days)).map fun l => (1440 * (first + n) + l.out, l.num, first + n) := by
  unfold rawRides
  rw [List.range_succ, List.flatMap_append]; simp
theorem raw_len (ls : List Leg) (first : Int) (n : Nat) : (rawRides ls first n).length ≤ n * ls.length := by
  induction n with
  | zero => simp [rawRides]
  | succ n ih =>
    rw [raw_succ, List.length_append, List.length_map, Nat.succ_mul]
    have := List.length_filter_le (fun l : Leg => decide ((first + n) % 7 ∈ l.days)) ls
    omega
/-- all rides of some days, by the law -/
def ridesOf (ls : List Leg) (first : Int) (n : Nat) : List Ride := ((rawRides ls first n).mergeSort le3).map fun t => (t.2.2, t.2.1)
theorem ridesOf_len (ls : List Leg) (first : Int) (n : Nat) : (ridesOf ls first n).length ≤ n * ls.length := by
  unfold ridesOf
  rw [List.length_map, List.length_mergeSort]
  exact raw_len ls first n
theorem mem_raw {ls : List Leg} {first : Int} {n : Nat} {t : Int × Int × Int} : t ∈ rawRides ls first n ↔ ∃ i : Nat, i < n ∧ ∃ l ∈ ls, (first + i) % 7 ∈ l.days ∧ t = (1440 * (first + i) + l.out, l.num, first + i) := by
  unfold rawRides
  rw [List.mem_flatMap]
  constructor
  · rintro ⟨i, hi, ht⟩
    obtain ⟨l, hl, rfl⟩ := List.mem_map.mp ht
    rw [List.mem_filter] at hl
    exact ⟨i, List.mem_range.mp hi, l, hl.1, by simpa using hl.2, rfl⟩
  · rintro ⟨i, hi, l, hl, hd, rfl⟩
    exact ⟨i, List.mem_range.mpr hi, List.mem_map.mpr ⟨l, List.mem_filter.mpr ⟨hl, by simpa using hd⟩, rfl⟩⟩
theorem mem_ridesOf {ls : List Leg} (nd : (ls.map (·.num)).Nodup) {first : Int} {n : Nat} {r : Ride} : r ∈ ridesOf ls first n ↔ first ≤ r.1 ∧ r.1 < first + n ∧ HasLeg ls r.2 ∧ r.1 % 7 ∈ (legOf ls r.2).days := by
  unfold ridesOf
  rw [List.mem_map]
  constructor
  · rintro ⟨t, ht, rfl⟩
    obtain ⟨i, hi, l, hl, hd, rfl⟩ := mem_raw.mp (List.mem_mergeSort.mp ht)
    refine ⟨by simp; omega, by simp; omega, ⟨l, hl, rfl⟩, ?_⟩
    simp only [legOf_eq nd hl]
    exact hd
  · rintro ⟨h1, h2, h3, h4⟩
    refine ⟨(1440 * r.1 + (legOf ls r.2).out, r.2, r.1), List.mem_mergeSort.mpr (mem_raw.mpr ⟨(r.1 - first).toNat, by omega, legOf ls r.2, legOf_mem h3, ?_, ?_⟩), rfl⟩
    · rw [show first + ((r.1 - first).toNat : Int) = r.1 by omega]; exact h4
    · rw [show first + ((r.1 - first).toNat : Int) = r.1 by omega, legOf_num h3]
/-- what stands as rides are found -/
structure RdI (S : Sto) (acc : List (Int × Int × Int)) (d0 d1 d2 : D) (P : Option D → Prop) (env : En) (S' : Sto) : Prop where
  ex : ∃ x4 x5 x6 x7, P x4 ∧ env = [some d0, some d1, some d2, some (.loc S.length), x4, x5, x6, x7] ∧ S' = S ++ [.lst (acc.map trD)]
theorem in_days {S : Sto} {x : Int} {b : Bool} {ds : List Int} : dIn S (.int x) (dayD b ds) = some (decide (x ∈ ds)) := by
  simp only [dIn, dayD_view]
  have : ((ds.map D.int).any fun z => peq z (.int x)) = decide (x ∈ ds) := by
    rw [Bool.eq_iff_iff]; simp [List.any_eq_true]
  rw [this]
  simp
theorem wp_rides {first last : Int} {Q : D → Sto → Prop} {E : XV → Sto → Prop} (hl : ls.length ≤ 60) (hd : ∀ l ∈ ls, l.days.length ≤ 1000) (h0 : 0 ≤ first ∧ first ≤ 61) (h1 : last ≤ 1000000) (h2 : -1000000 ≤ last)
    (q : ∀ j, Q (.lst ((ridesOf ls first (min 60 last + 1 - first).toNat).map rideD)) (S ++ [j])) : Res.wp (M_law_rides [netD ps ls, .int first, .int last] S) Q E := by
  unfold M_law_rides
  apply wp_body
  unfold b_law_rides
  have s1 : smallI first = true := smallI_of (by omega)
  have s2 : smallI (min 60 last + 1) = true := smallI_of (by omega)
  obtain ⟨n, hn⟩ : ∃ n, n = (min 60 last + 1 - first).toNat := ⟨_, rfl⟩
  rw [← hn] at q
  simp -dsimp [s1, s2, ← hn, rngD_map]
  refine wp_for (f := fun i : Nat => D.int (first + i)) (List.range n) (fun pre _ => RdI S (rawRides ls first pre.length) (netD ps ls) (.int first) (.int last) fun _ => True) rfl ⟨_, _, _, _, trivial, rfl, by simp [rawRides]⟩ ?_ ?_
  · rintro pre i rest env S' hp ⟨x4, x5, x6, x7, _, rfl, rfl⟩
    obtain ⟨rfl, hi⟩ := range_at hp
    refine ⟨_, rfl, ?_⟩
    simp -dsimp [netD]
    refine wp_for (f := Leg.d) ls (fun pre2 _ => RdI S (rawRides ls first pre.length ++ (pre2.filter fun l => decide ((first + pre.length) % 7 ∈ l.days)).map fun l => (1440 * (first + pre.length) + l.out, l.num, first + pre.length)) (netD ps ls) (.int first) (.int last) fun x => x = some (.int (first + pre.length))) rfl ?_ ?_ ?_
    · exact ⟨_, _, _, _, rfl, rfl, by simp⟩
    · rintro pre2 l rest2 env S' hp2 ⟨y4, y5, y6, y7, rfl, rfl, rfl⟩
      have hlen : (rawRides ls first pre.length ++ (pre2.filter fun l => decide ((first + pre.length) % 7 ∈ l.days)).map fun l => (1440 * (first + pre.length) + l.out, l.num, first + (pre.length : Int))).length < 1000000 := by
        have a := raw_len ls first pre.length
        have b := List.length_filter_le (fun l : Leg => decide ((first + pre.length) % 7 ∈ l.days)) pre2
        have c := congrArg List.length hp2
        have e : pre.length * ls.length ≤ 1000062 / 1000 * 60 := Nat.mul_le_mul (by omega) hl
        rw [List.length_append, List.length_map]
        rw [List.length_append, List.length_cons] at c
        omega
      refine ⟨_, rfl, ?_⟩
      simp -dsimp [Leg.d, in_days]
      by_cases hg : (first + pre.length) % 7 ∈ l.days
      · rw [List.length_append, List.length_map] at hlen
        simp -dsimp [hg, isLstB, bAppend]
        rw [if_pos (by simpa using hlen)]
        simp -dsimp
        exact ⟨_, _, _, _, rfl, rfl, by simp [hg, trD]⟩
      · simp -dsimp [hg]
        exact ⟨_, _, _, _, rfl, rfl, by simp [hg]⟩
    · rintro env S' ⟨y4, y5, y6, y7, rfl, rfl, rfl⟩
      exact ⟨_, _, _, _, trivial, rfl, by rw [List.length_append, List.length_singleton, raw_succ]⟩
  · rintro env S' ⟨x4, x5, x6, x7, _, rfl, rfl⟩
    have hlen : (rawRides ls first n).length ≤ 100000 := by
      have a := raw_len ls first n
      have e : n * ls.length ≤ 61 * 60 := Nat.mul_le_mul (by omega) hl
      omega
    have hso := sorted_of (S := S ++ [.lst ((rawRides ls first n).map trD)]) (d := .loc S.length) (rawRides ls first n) trD le3 (sortOf_loc (by simp)) (fun x => by simp [trD]) (fun x y => by simp [trD]) (fun x => ⟨_, _, rfl⟩) dle_tr (by omega)
    rw [List.length_range]
    simp -dsimp [hso]
    refine wp_compI_pure (f := trD) ((rawRides ls first n).mergeSort le3) (fun _ => true) (fun t => .tup [.int t.2.2, .int t.2.1]) rfl (by rw [List.length_mergeSort]; omega) (fun x hx => ⟨_, rfl, rfl, fun _ => by simp⟩) ?_
    rw [filter_yes]
    simp -dsimp
    have := q (.lst ((rawRides ls first n).map trD))
    unfold ridesOf at this
    rw [List.map_map] at this
    exact this
end
end DL

set_option Elab.async false
set_option linter.all false
set_option maxRecDepth 100000
set_option maxHeartbeats 4000000
/-! N7: all rides of a net, by the program. -/
namespace DL
open PySem PySem.Spec PyProof.Rows L2 LamX
/-- the second clause's walk, by an own filter and function -/
theorem walkC_pure {τ : Type} {g : MG} {tc : MT} {m : ME} {w : En} {f : τ → D} {S : Sto} (p : τ → Bool) (v : τ → D) : ∀ (xs : List τ) (acc : List D), acc.length + (xs.filter p).length ≤ 1000000 →
    (∀ x ∈ xs, ∃ e, g (f x) w S = some (e, S) ∧ tc e S = .ok (p x) S ∧ (p x = true → m e S = .ok (v x) S)) → walkI (turnC g tc m w) (xs.map f) acc S = .ok (acc ++ (xs.filter p).map v) S
  | [], acc, _, _ => by simp [walkI]
  | x :: xs, acc, hl, hx => by
    obtain ⟨e, e1, e2, e3⟩ := hx x List.mem_cons_self
    rw [List.map_cons]
    unfold walkI turnC
    simp only [e1, e2, bindS_ok]
    have hy : ∀ y ∈ xs, ∃ e, g (f y) w S = some (e, S) ∧ tc e S = .ok (p y) S ∧ (p y = true → m e S = .ok (v y) S) := fun y hy => hx y (List.mem_cons_of_mem _ hy)
    cases hp : p x with
    | false =>
      simp only [Bool.false_eq_true, if_false, bindS_ok]
      rw [List.filter_cons_of_neg (by simp [hp])] at hl
      have := walkC_pure p v xs acc hl hy
      unfold turnC at this
      rw [this]
      simp [hp]
    | true =>
      rw [List.filter_cons_of_pos hp, List.length_cons] at hl
      have ha : acc.length < 1000000 := by omega
      simp only [if_true, e3 hp, bindS_ok, ha]
      have := walkC_pure p v xs (acc ++ [v x]) (by simp; omega) hy
      unfold turnC at this
      rw [this]
      simp [hp]
theorem byKeys_mem {τ : Type} (f k : τ → D) (xs : List τ) (le : τ → τ → Bool) (h : ∀ x ∈ xs, ∀ y ∈ xs, dle (k x) (k y) = le x y) : byKeys (xs.map f) (xs.map k) = (xs.mergeSort le).map f := by
  unfold byKeys
  have e : (xs.map f).zip (xs.map k) = xs.map fun x => (f x, k x) := by
    rw [List.zip_map, List.zip_eq_zipWith]
    simp [List.zipWith_self, List.map_map]
  rw [e, ← List.map_mergeSort (r := le) (s := fun a b : D × D => dle a.2 b.2) (f := fun x => (f x, k x)) fun a ha b hb => (h a ha b hb).symm]
  rw [List.map_map]
  rfl
theorem sortKey_mem {τ : Type} {m mk : ME} {i : Nat} {env : En} {S S1 : Sto} {d : D} (xs : List τ) (f k : τ → D) (le : τ → τ → Bool) (hm : m env S = .ok d S1) (hs : sortOf S1 d = some (xs.map f)) (hk : ∀ x ∈ xs, mk (env.set i (some (f x))) S1 = .ok (k x) S1)
    (ho : sortOk (xs.map k) = true) (hl : xs.length ≤ 1000000) (hle : ∀ x ∈ xs, ∀ y ∈ xs, dle (k x) (k y) = le x y) : eSortKey m i mk env S = .ok (.loc S1.length) (S1 ++ [.lst ((xs.mergeSort le).map f)]) := by
  unfold eSortKey
  rw [hm]
  simp only [Res.bind, hs]
  rw [keysI_pure xs [] hk, bindS_ok]
  simp only [List.nil_append, ho, List.length_map, hl, and_self, if_true, byKeys_mem f k xs le hle]
section
variable {S : Sto} {l : Nat} {ps : List (Str × Int)} {ls : List Leg} {r : Ride}
def k2D (t : Int × Int × Int) : D := .tup [.int t.1, .int t.2.1]
def rd2 (t : Int × Int × Int) : D := .tup [.int t.2.2, .int t.2.1]
end
end DL

set_option Elab.async false
set_option linter.all false
set_option maxRecDepth 100000
set_option maxHeartbeats 4000000
/-! N8: need_days, dated, times. -/
namespace DL
open PySem PySem.Spec PyProof.Rows L2 LamX
theorem wp_kindM {hd : Str → Option D} {r : Res D} {Q : D → Sto → Prop} {E : XV → Sto → Prop} (h : Res.wp r Q (fun x S => x.fs = [] ∧ ∃ d, hd x.cls = some d ∧ Q d S)) : Res.wp (kindM hd r) Q E := by
  cases r with
  | ok a S => rw [wp_ok] at h; unfold kindM; rw [wp_ok]; exact h
  | exc e S =>
    rw [wp_exc] at h
    obtain ⟨h1, d, h2, h3⟩ := h
    unfold kindM
    simp [h1, h2, h3]
  | stuck => simp at h
section
variable {S : Sto} {l : Nat} {ps : List (Str × Int)} {ls : List Leg} {r : Ride} {Q : D → Sto → Prop} {E : XV → Sto → Prop}
theorem isnum_false {x : D} {a b : Int} : isNumD x a b = false → ∀ i, x = .int i → ¬(a ≤ i ∧ i ≤ b) := by
  rintro h i rfl ⟨h1, h2⟩
  simp [isNumD, h1, h2] at h
end
end DL

set_option Elab.async false
set_option linter.all false
set_option maxRecDepth 100000
set_option maxHeartbeats 4000000
/-! N9: the law's own likeness; rides that can't be. -/
namespace DL
open PySem PySem.Spec PyProof.Rows L2 LamX
theorem filter_none {α : Type} (xs : List α) : xs.filter (fun _ => false) = [] := List.filter_eq_nil_iff.mpr fun _ _ => by simp
def Sme (S : Sto) (n : Nat) (a b : D) : Prop := M_law_same n [a, b] S = .ok (.bool true) S
section
variable {S : Sto} {n : Nat}
theorem sme_int (i : Int) : Sme S (n + 1) (.int i) (.int i) := by
  unfold Sme M_law_same
  apply eq_of_wp
  apply wp_body
  simp -dsimp [fIsi, tysOf]
theorem sme_seq {a b : D} {t : String} {xs ys : List D} (ht : t = "tuple" ∨ t = "list") (ta : tyOf S a = some t) (tb : tyOf S b = some t) (la : fLen S [a] = some (.int xs.length)) (lb : fLen S [b] = some (.int ys.length))
    (ia : ∀ i, fIx S a (.int i) = atI xs i) (ib : ∀ i, fIx S b (.int i) = atI ys i) (hl : xs.length = ys.length) (hs : ys.length ≤ 1000000) (hx : ∀ (i : Nat) (x y : D), xs[i]? = some x → ys[i]? = some y → Sme S n x y) : Sme S (n + 1) a b := by
  unfold Sme M_law_same
  apply eq_of_wp
  apply wp_body
  have h2 : fIsi S [b, .tup [.ty "tuple", .ty "list"]] = some (.bool true) := by rcases ht with rfl | rfl <;> simp [fIsi, tb, tysOf]
  have h3 : fIsi S [a, .tup [.ty "tuple", .ty "list"]] = some (.bool true) := by rcases ht with rfl | rfl <;> simp [fIsi, ta, tysOf]
  have h4 : ∃ k, fIsi S [a, .ty "list"] = some (.bool k) ∧ fIsi S [b, .ty "list"] = some (.bool k) := by rcases ht with rfl | rfl <;> simp [fIsi, ta, tb]
  obtain ⟨k, h4, h5⟩ := h4
  have hsm : smallI (ys.length : Int) = true := smallI_of (by omega)
  simp -dsimp [h2, h3, h4, h5, la, lb, hl, hsm, rngD_map]
  refine wp_compI_pure (f := fun i : Nat => D.int i) (List.range ys.length) (fun _ => false) (fun i => .int i) rfl (by simp; omega) ?_ ?_
  · intro i hi
    have hi := List.mem_range.mp hi
    have e1 : atI xs (i : Int) = some (xs[i]'(by omega)) := by rw [atI_nat (by omega), List.getElem?_eq_getElem]
    have e2 : atI ys (i : Int) = some (ys[i]) := by rw [atI_nat hi, List.getElem?_eq_getElem]
    have hal := hx i _ _ (List.getElem?_eq_getElem (show i < xs.length by omega)) (List.getElem?_eq_getElem hi)
    unfold Sme at hal
    refine ⟨_, rfl, ?_, fun z => by cases z⟩
    simp [ia, ib, e1, e2, hal]
  · rw [filter_none]
    simp -dsimp
theorem sme_two (x y : Int) : Sme S (n + 2) (.tup [.int x, .int y]) (.tup [.int x, .int y]) := by
  refine sme_seq (t := "tuple") (xs := [.int x, .int y]) (ys := [.int x, .int y]) (.inl rfl) rfl rfl rfl rfl (fun _ => rfl) (fun _ => rfl) rfl (by simp) fun i x y h1 h2 => ?_
  rw [h1] at h2; cases h2
  match i, h1 with
  | 0, h1 => cases h1; exact sme_int _
  | 1, h1 => cases h1; exact sme_int _
  | i + 2, h1 => simp at h1
theorem sme_rides {l : Nat} {rs : List Ride} (hg : S[l]? = some (.lst (rs.map rideD))) (hl : rs.length ≤ 1000000) : Sme S (n + 3) (.loc l) (.lst (rs.map rideD)) := by
  refine sme_seq (t := "list") (xs := rs.map rideD) (ys := rs.map rideD) (.inr rfl) (by simp [tyOf, hg]) rfl (by simp [fLen, hg]) (by simp) (fun i => fIx_loc hg i) (fun _ => rfl) rfl (by simpa using hl) fun i x y h1 h2 => ?_
  rw [h1] at h2; cases h2
  obtain ⟨r, _, rfl⟩ := List.mem_map.mp (List.mem_of_getElem? h1)
  exact sme_two _ _
end
section
variable {S : Sto} {l : Nat} {ps : List (Str × Int)} {ls : List Leg} {r : Ride} {Q : D → Sto → Prop} {E : XV → Sto → Prop}
/-- a pair of numbers of which no such ride goes -/
theorem need_ride_two (N : NetL S l ls) (hd : ∀ l ∈ ls, l.days.length ≤ 1000) {d n : Int} (h : ¬rGoes ls (d, n)) : M_Net_need_ride [.loc l, .tup [.int d, .int n]] S = .exc ⟨"NoLeg", []⟩ S := by
  obtain ⟨c, g, h1, h3⟩ := N.ex
  apply exc_of_wp
  unfold M_Net_need_ride
  apply wp_body
  unfold b_Net_need_ride
  have hgo : M_Net_goes [.loc l, .int d, .int n] S = .ok (.bool false) S := by
    by_cases hh : HasLeg ls n
    · rw [mgoes_l N hh hd]
      have : decide (0 ≤ d ∧ d ≤ 60 ∧ d % 7 ∈ (legOf ls n).days) = false := by
        rw [decide_eq_false_iff_not]
        exact fun z => h ⟨z.1, z.2.1, hh, z.2.2⟩
      rw [this]
    · apply eq_of_wp
      unfold M_Net_goes
      apply wp_body
      unfold b_Net_goes
      have hno : dLook false (ls.map fun x => (.int x.num, x.d)) (.int n) = none := by
        rw [look_int, List.find?_eq_none.mpr fun x hx => by simpa using fun e => hh ⟨x, hx, e⟩]; rfl
      have hin : dIn S (.int n) (.loc g) = some false := by rcases dctOf_some h3 with h3 | h3 <;> simp [dIn, h3, hno]
      by_cases c1 : 0 ≤ d
      · by_cases c2 : d ≤ 60
        · simp -dsimp [c1, c2, h1, hin]
        · simp -dsimp [c1, c2]
      · simp -dsimp [c1]
  by_cases hn : 1 ≤ n ∧ n ≤ 9999
  · simp -dsimp [fIsi, hn, h1, hgo]
  · by_cases c1 : 1 ≤ n
    · have c2 : ¬n ≤ 9999 := fun z => hn ⟨c1, z⟩
      simp -dsimp [fIsi, c1, c2]
    · simp -dsimp [fIsi, c1]
/-- what is no pair of numbers -/
def oddRide : D → Bool
  | .tup [.int _, .int _] => false
  | .tup [.int _, .bool _] => true
  | .tup [.str _, .int _] => true
  | .tup [_] => true
  | .tup [_, _, _] => true
  | .lst [_, _] => true
  | .none => true
  | _ => false
theorem need_ride_odd (N : NetL S l ls) {x : D} (h : oddRide x = true) : M_Net_need_ride [.loc l, x] S = .exc ⟨"NoLeg", []⟩ S := by
  obtain ⟨c, g, h1, h3⟩ := N.ex
  apply exc_of_wp
  unfold M_Net_need_ride
  apply wp_body
  unfold b_Net_need_ride
  unfold oddRide at h
  split at h
  · cases h
  · rename_i i b
    simp -dsimp [fIsi, num_eq (S := S) (x := .bool b) (t := "bool") 1 9999 rfl, isNumD]
  · rename_i z i
    have hgo : M_Net_goes [.loc l, .str z, .int i] S = .ok (.bool false) S := by
      apply eq_of_wp
      unfold M_Net_goes
      apply wp_body
      unfold b_Net_goes
      simp -dsimp [num_eq (S := S) (x := .str z) (t := "str") 0 60 rfl, isNumD]
    by_cases hn : 1 ≤ i ∧ i ≤ 9999
    · simp -dsimp [fIsi, hn, h1, hgo]
    · by_cases c1 : 1 ≤ i
      · have c2 : ¬i ≤ 9999 := fun z => hn ⟨c1, z⟩
        simp -dsimp [fIsi, c1, c2]
      · simp -dsimp [fIsi, c1]
  · simp -dsimp [fIsi]
  · simp -dsimp [fIsi]
  · simp -dsimp [fIsi]
  · simp -dsimp [fIsi]
  · cases h
/-- what can't be asked for -/
def BadRide (ls : List Leg) (x : D) : Prop := (∃ d n, x = .tup [.int d, .int n] ∧ ¬rGoes ls (d, n)) ∨ oddRide x = true
end
end DL

set_option Elab.async false
set_option linter.all false
set_option maxRecDepth 100000
set_option maxHeartbeats 4000000
/-! C1: duties' words, the program's and the law's. -/
namespace DL
open PySem PySem.Spec PyProof.Rows L2 LamX
/-- a tuple of rides -/
def RTup (d : D) (rs : List Ride) : Prop := d = .tup (rs.map rideD) ∨ d = .tpn (rs.map rideD)
theorem RTup.tup (rs : List Ride) : RTup (.tup (rs.map rideD)) rs := .inl rfl
theorem RTup.view {d : D} {rs : List Ride} (h : RTup d rs) (S : Sto) : view S d = .tup (rs.map rideD) := by rcases h with rfl | rfl <;> rfl
theorem RTup.vt {d : D} {rs : List Ride} (h : RTup d rs) : vt d = .tup (rs.map rideD) := by rcases h with rfl | rfl <;> rfl
theorem RTup.view0 {d : D} {rs : List Ride} (h : RTup d rs) (S : Sto) : view0 S d = d := by rcases h with rfl | rfl <;> rfl
theorem RTup.iter {d : D} {rs : List Ride} (h : RTup d rs) (S : Sto) : iterD S d = some (.items (rs.map rideD)) := by rcases h with rfl | rfl <;> simp
theorem RTup.len {d : D} {rs : List Ride} (h : RTup d rs) (S : Sto) : fLen S [d] = some (.int rs.length) := by rcases h with rfl | rfl <;> simp
theorem RTup.ix {d : D} {rs : List Ride} (h : RTup d rs) (S : Sto) (i : Int) : fIx S d (.int i) = atI (rs.map rideD) i := by rcases h with rfl | rfl <;> simp
theorem RTup.ty {d : D} {rs : List Ride} (h : RTup d rs) (S : Sto) : tyOf S d = some "tuple" := by rcases h with rfl | rfl <;> rfl
theorem RTup.dok {d : D} {rs : List Ride} (h : RTup d rs) : dok 60 d = true := by
  rcases h with rfl | rfl
  · exact rideEnc.tup.dok 60 rs (by omega)
  · exact rideEnc.tpn.dok 60 rs (by omega)
theorem RTup.cut {d : D} {rs : List Ride} (h : RTup d rs) (lo hi : Option Int) : ∃ d', fCut d lo hi = some d' ∧ RTup d' (cutD rs lo hi) := by
  obtain ⟨d', e, h'⟩ := vt_cut h lo hi
  have : cutD (rs.map rideD) lo hi = (cutD rs lo hi).map rideD := by
    unfold cutD
    rw [List.map_take, List.map_drop, List.length_map]
  rw [this] at h'
  exact ⟨d', e, h'⟩
theorem atI_map {τ : Type} (f : τ → D) (xs : List τ) (i : Int) : atI (xs.map f) i = (atI xs i).map f := by
  unfold atI
  rw [List.length_map]
  cases ixN xs.length i with
  | none => rfl
  | some j => simp
theorem atI_first {α : Type} {xs : List α} (h : xs ≠ []) : atI xs 0 = some (xs.head h) := by
  cases xs with
  | nil => exact absurd rfl h
  | cons a l => simp
theorem atI_end {α : Type} {xs : List α} (h : xs ≠ []) : atI xs (-1) = some (xs.getLast h) := by
  rw [atI_last h, List.getLast?_eq_some_getLast h]
/-- the first pair that doesn't hang together -/
def pw (ls : List Leg) : List (Ride × Ride) → Option Str
  | [] => none
  | p :: t => if rGoal ls p.1 ≠ rStart ls p.2 then some "place" else if rLeave ls p.2 < rArrive ls p.1 + 30 then some "gap" else pw ls t
theorem pw_cons (ls : List Leg) (p : Ride × Ride) (t : List (Ride × Ride)) : pw ls (p :: t) = if rGoal ls p.1 ≠ rStart ls p.2 then some ("place" : Str) else if rLeave ls p.2 < rArrive ls p.1 + 30 then some ("gap" : Str) else pw ls t := rfl
def restWord (ls : List Leg) (rs : List Ride) (h : rs ≠ []) : Str :=
  if 4 < rs.length then "legs" else if 540 < (rs.map (rLong ls)).sum then "flown" else if 840 < rArrive ls (rs.getLast h) - rLeave ls (rs.head h) + 90 then "long" else ""
def dutyWord (ls : List Leg) (rs : List Ride) (h : rs ≠ []) : Str := match pw ls (rs.zip rs.tail) with
  | some w => w
  | none => restWord ls rs h
theorem str_ne {a b : String} (h : a ≠ b) : Str.ofString a ≠ Str.ofString b := fun e => h ((ofString_inj a b).mp e)
theorem pw_two {ls : List Leg} : ∀ {t : List (Ride × Ride)} {w : Str}, pw ls t = some w → w = "place" ∨ w = "gap"
  | [], w, h => by cases h
  | p :: t, w, h => by
    unfold pw at h
    split at h
    · cases h; exact .inl rfl
    · split at h
      · cases h; exact .inr rfl
      · exact pw_two h
theorem ok_place : PyData.strOk "place" = true := by decide +kernel
theorem ok_gap : PyData.strOk "gap" = true := by decide +kernel
theorem ok_e : PyData.strOk "" = true := by decide +kernel
theorem word_ok {ls : List Leg} {rs : List Ride} (h : rs ≠ []) : PyData.strOk (dutyWord ls rs h) = true := by
  unfold dutyWord
  split
  · rename_i w e
    rcases pw_two e with rfl | rfl
    · exact ok_place
    · exact ok_gap
  · unfold restWord
    split
    · decide +kernel
    · split
      · decide +kernel
      · split <;> decide +kernel
section
variable {S : Sto} {l : Nat} {ps : List (Str × Int)} {ls : List Leg} {d : D} {rs : List Ride}
theorem names_ok (h : NetOk ps ls) {r : Ride} (hr : HasLeg ls r.2) : PyData.strOk (rStart ls r) = true ∧ PyData.strOk (rGoal ls r) = true := by
  have ok := h.legs _ (legOf_mem hr)
  exact ⟨(six_word _ (h.sub _ ok.s)).2.2, (six_word _ (h.sub _ ok.g)).2.2⟩
theorem net_met {fs : List (Str × D)} {c g : Nat} {nm : Str} (h : S[l]? = some (.ins "Net" [("changes", .loc c), ("legs", .loc g)])) : True := trivial
/-- what stands as pairs are looked at -/
structure DwI (S0 : Sto) (d0 d1 : D) (ok : Prop) (env : En) (S : Sto) : Prop where
  ex : ∃ x2 x3 x4, env = [some d0, some d1, x2, x3, x4] ∧ S = S0 ∧ ok
theorem duty_eq (H : NetOk ps ls) (N : NetAt S l ps ls) (hd : RTup d rs) (ne : rs ≠ []) (hr : ∀ r ∈ rs, HasLeg ls r.2) (hl : rs.length ≤ 1000) : M_duty_word [.loc l, d] S = .ok (.str (dutyWord ls rs ne)) S := by
  obtain ⟨c, g, h1, h2, h3⟩ := N.ex
  apply eq_of_wp
  unfold M_duty_word
  apply wp_body
  unfold b_duty_word
  obtain ⟨d', e', hd'⟩ := hd.cut (some 1) none
  rw [cut_1] at hd'
  have hz : zipD (rs.map rideD) (rs.tail.map rideD) = (rs.zip rs.tail).map fun p => D.tup [rideD p.1, rideD p.2] := zip_map rideD rs rs.tail
  simp -dsimp [hd.view0, e', hd.vt, hd'.vt, -List.map_tail, hz]
  refine wp_for (f := fun p : Ride × Ride => D.tup [rideD p.1, rideD p.2]) (rs.zip rs.tail) (fun _ rest => DwI S (.loc l) d (pw ls (rs.zip rs.tail) = pw ls rest)) rfl ⟨_, _, _, rfl, rfl, rfl⟩ ?_ ?_
  · rintro pre p rest env S' hp ⟨x2, x3, x4, rfl, rfl, hw⟩
    refine ⟨_, rfl, ?_⟩
    have hm : p ∈ rs.zip rs.tail := by rw [← hp]; simp
    have m1 := hr _ (List.of_mem_zip hm).1
    have m2 := hr _ (List.mem_of_mem_tail (List.of_mem_zip hm).2)
    have n1 := names_ok H m1
    have n2 := names_ok H m2
    have g1 := mgoal_eq N m1
    have g2 := mstart_eq N m2
    have g3 := marrive_eq N m1
    have g4 := mleave_eq N m2
    have hw : pw ls (rs.zip rs.tail) = pw ls (p :: rest) := hw
    rw [pw_cons] at hw
    simp -dsimp [h1, g1, g2, n1, n2]
    by_cases q1 : rGoal ls p.1 = rStart ls p.2
    · simp -dsimp [q1, h1, g3, g4]
      rw [if_neg (fun z => z q1)] at hw
      by_cases q2 : rLeave ls p.2 < rArrive ls p.1 + 30
      · simp -dsimp [q2]
        rw [if_pos q2] at hw
        unfold dutyWord
        rw [hw]
      · simp -dsimp [q2]
        rw [if_neg q2] at hw
        exact ⟨_, _, _, rfl, rfl, hw⟩
    · simp -dsimp [q1]
      rw [if_pos q1] at hw
      unfold dutyWord
      rw [hw]
  · rintro env S' ⟨x2, x3, x4, rfl, rfl, hw⟩
    have hw : pw ls (rs.zip rs.tail) = none := hw
    have hD : dutyWord ls rs ne = restWord ls rs ne := by unfold dutyWord; rw [hw]
    rw [hD]
    unfold restWord
    simp -dsimp [hd.len]
    by_cases q1 : (4 : Int) < rs.length
    · have q1n : 4 < rs.length := by omega
      simp -dsimp [q1, q1n]
    · have q1n : ¬ 4 < rs.length := by omega
      simp -dsimp [q1, q1n, hd.iter]
      refine wp_compI_pure (f := rideD) rs (fun _ => true) (fun r => .int (rLong ls r)) rfl (by omega) (fun x hx => ⟨_, rfl, rfl, fun _ => by simp [h1, mlong_eq N (hr x hx)]⟩) ?_
      rw [filter_yes]
      have hs := fSum_ints S' (rs.map (rLong ls))
      rw [List.map_map] at hs
      have hs : fSum S' [.lst (rs.map fun r => D.int (rLong ls r))] = some (.int (rs.map (rLong ls)).sum) := hs
      simp -dsimp [hs]
      by_cases q2 : 540 < (rs.map (rLong ls)).sum
      · simp -dsimp [q1n, q2]
      · have e1 := atI_end ne
        have e2 := atI_first ne
        have m1 := hr _ (List.getLast_mem ne)
        have m2 := hr _ (List.head_mem ne)
        simp -dsimp [q1n, q2, hd.ix, atI_map, e1, e2, h1, marrive_eq N m1, mleave_eq N m2]
        by_cases q3 : 840 < rArrive ls (rs.getLast ne) - rLeave ls (rs.head ne) + 90
        · have : 840 < rArrive ls (rs.getLast ne) + 30 - rLeave ls (rs.head ne) + 60 := by omega
          simp -dsimp [q1n, q2, q3, this]
        · have : ¬ 840 < rArrive ls (rs.getLast ne) + 30 - rLeave ls (rs.head ne) + 60 := by omega
          simp -dsimp [q1n, q2, q3, this]
end
end DL

set_option Elab.async false
set_option linter.all false
set_option maxRecDepth 100000
set_option maxHeartbeats 4000000
/-! C3: judged_duty; rested, the program's and the law's. -/
namespace DL
open PySem PySem.Spec PyProof.Rows L2 LamX
section
variable {S : Sto}
theorem zip_tail_at (rs : List Ride) (k : Nat) (h : k + 1 < rs.length) : (rs.zip rs.tail).drop k = (rs[k]'(by omega), rs[k + 1]) :: (rs.zip rs.tail).drop (k + 1) := by
  rw [List.drop_eq_getElem_cons (by simp; omega)]
  congr 1
  simp
end
/-- what stands: some names known, others any -/
structure EnvI (S0 : Sto) (front : En) (nt : Nat) (ok : Prop) (env : En) (S : Sto) : Prop where
  ex : ∃ tail, tail.length = nt ∧ env = front ++ tail ∧ S = S0 ∧ ok
theorem len1 {α : Type} {l : List α} (h : l.length = 1) : ∃ a, l = [a] := by
  match l, h with
  | [a], _ => exact ⟨a, rfl⟩
theorem len2 {α : Type} {l : List α} (h : l.length = 2) : ∃ a b, l = [a, b] := by
  match l, h with
  | [a, b], _ => exact ⟨a, b, rfl⟩
theorem len3 {α : Type} {l : List α} (h : l.length = 3) : ∃ a b c, l = [a, b, c] := by
  match l, h with
  | [a, b, c], _ => exact ⟨a, b, c, rfl⟩
theorem len5 {α : Type} {l : List α} (h : l.length = 5) : ∃ a b c d e, l = [a, b, c, d, e] := by
  match l, h with
  | [a, b, c, d, e], _ => exact ⟨a, b, c, d, e, rfl⟩
theorem len6 {α : Type} {l : List α} (h : l.length = 6) : ∃ a b c d e f, l = [a, b, c, d, e, f] := by
  match l, h with
  | [a, b, c, d, e, f], _ => exact ⟨a, b, c, d, e, f, rfl⟩
/-- a list of the tuples of rides -/
inductive RTups : List D → List (List Ride) → Prop where
  | nil : RTups [] []
  | cons {d : D} {rs : List Ride} {ds : List D} {rss : List (List Ride)} : RTup d rs → RTups ds rss → RTups (d :: ds) (rs :: rss)
theorem RTups.length {ds : List D} {rss : List (List Ride)} (h : RTups ds rss) : ds.length = rss.length := by
  induction h with
  | nil => rfl
  | cons _ _ ih => simp [ih]
theorem RTups.append {ds es : List D} {rss sss : List (List Ride)} (h : RTups ds rss) (h2 : RTups es sss) : RTups (ds ++ es) (rss ++ sss) := by
  induction h with
  | nil => exact h2
  | cons a _ ih => exact .cons a ih
theorem RTups.take {ds : List D} {rss : List (List Ride)} (h : RTups ds rss) : ∀ n, RTups (ds.take n) (rss.take n) := by
  induction h with
  | nil => intro n; simp; exact .nil
  | cons a _ ih =>
    intro n
    cases n with
    | zero => simp; exact .nil
    | succ n => exact .cons a (ih n)
theorem RTups.get {ds : List D} {rss : List (List Ride)} (h : RTups ds rss) : ∀ {i : Nat} {d : D}, ds[i]? = some d → ∃ rs, rss[i]? = some rs ∧ RTup d rs := by
  induction h with
  | nil => intro i d e; simp at e
  | cons a _ ih =>
    intro i d e
    cases i with
    | zero => simp at e; subst e; exact ⟨_, rfl, a⟩
    | succ i => exact ih (by simpa using e)
/-- the word of a duty -/
def dw (ls : List Leg) (rs : List Ride) : Str := if h : rs = [] then "" else dutyWord ls rs h
theorem dw_ne {ls : List Leg} {rs : List Ride} (h : rs ≠ []) : dutyWord ls rs h = dw ls rs := by rw [dw, dif_neg h]
theorem dw_ok (ls : List Leg) (rs : List Ride) : PyData.strOk (dw ls rs) = true := by
  unfold dw
  split
  · exact ok_e
  · exact word_ok _
def rFirst (rs : List Ride) : Ride := rs.headD (0, 0)
def rEnd (rs : List Ride) : Ride := rs.getLastD (0, 0)
theorem ix_first {rs : List Ride} (h : rs ≠ []) : atI rs 0 = some (rFirst rs) := by
  cases rs with
  | nil => exact absurd rfl h
  | cons a l => simp [rFirst]
theorem ix_end {rs : List Ride} (h : rs ≠ []) : atI rs (-1) = some (rEnd rs) := by
  rw [atI_last h, rEnd, List.getLastD_eq_getLast?, List.getLast?_eq_some_getLast h]; rfl
theorem first_mem {rs : List Ride} (h : rs ≠ []) : rFirst rs ∈ rs := by
  cases rs with
  | nil => exact absurd rfl h
  | cons a l => simp [rFirst]
theorem end_mem {rs : List Ride} (h : rs ≠ []) : rEnd rs ∈ rs := by
  rw [rEnd, List.getLastD_eq_getLast?, List.getLast?_eq_some_getLast h]; exact List.getLast_mem h
/-- a row of rides that go -/
structure Row (ls : List Leg) (rs : List Ride) : Prop where
  ne : rs ≠ []
  go : ∀ r ∈ rs, rGoes ls r
  len : rs.length ≤ 1000
theorem Row.has {ls : List Leg} {rs : List Ride} (h : Row ls rs) : ∀ r ∈ rs, HasLeg ls r.2 := fun r hr => (h.go r hr).has
theorem Row.take {ls : List Leg} {rs : List Ride} (h : Row ls rs) {n : Nat} (hn : 0 < n) : Row ls (rs.take n) :=
  ⟨by intro z; rcases List.take_eq_nil_iff.mp z with z | z; exact absurd z (by omega); exact h.ne z, fun r hr => h.go r (List.mem_of_mem_take hr), by have := h.len; simp; omega⟩
theorem Row.drop {ls : List Leg} {rs : List Ride} (h : Row ls rs) {n : Nat} (hn : n < rs.length) : Row ls (rs.drop n) :=
  ⟨by intro z; have := congrArg List.length z; simp at this; omega, fun r hr => h.go r (List.mem_of_mem_drop hr), by have := h.len; simp; omega⟩
/-- how one duty goes with the one ahead -/
def restW (ls : List Leg) (p rs : List Ride) : Option Str :=
  if rGoal ls (rEnd p) ≠ rStart ls (rFirst rs) then some ("place" : Str)
  else if rLeave ls (rFirst rs) - 60 < rArrive ls (rEnd p) + 30 + max 600 (rArrive ls (rEnd p) + 30 - (rLeave ls (rFirst p) - 60)) then some ("rest" : Str) else none
def restedOf (ls : List Leg) : Nat → Option (List Ride) → List (List Ride) → Option (Nat × Str)
  | _, _, [] => none
  | k, prev, rs :: t => if dw ls rs ≠ "" then some (k, dw ls rs) else match prev with
    | none => restedOf ls (k + 1) (some rs) t
    | some p => match restW ls p rs with
      | some w => some (k, w)
      | none => restedOf ls (k + 1) (some rs) t
def restD : Option (Nat × Str) → D
  | none => .none
  | some p => .tup [.int p.1, .str p.2]
section
variable {S : Sto} {l : Nat} {ps : List (Str × Int)} {ls : List Leg} {d : D} {rs : List Ride}
theorem num_ok (H : NetOk ps ls) {n : Int} (h : HasLeg ls n) : 1 ≤ n ∧ n ≤ 9999 := by
  have := (H.legs _ (legOf_mem h)).num
  rw [legOf_num h] at this
  exact this
theorem peq_e {d : D} {rs : List Ride} (hd : RTup d rs) (ne : rs ≠ []) : peq d (.tup []) = false := by
  have : peqAll (rs.map rideD) [] = false := by
    cases rs with
    | nil => exact absurd rfl ne
    | cons a l => simp
  rcases hd with rfl | rfl <;> simp [this]
theorem need_rides_eq (H : NetOk ps ls) (N : NetAt S l ps ls) (hd : RTup d rs) (R : Row ls rs) : M_need_rides [.loc l, d] S = .ok .none S := by
  obtain ⟨c, g, h1, h2, h3⟩ := N.ex
  apply eq_of_wp
  unfold M_need_rides
  apply wp_body
  unfold b_need_rides
  have hp : peqAll (rs.map rideD) [] = false := by
    cases rs with
    | nil => exact absurd rfl R.ne
    | cons a l => simp
  have hk : dok 60 (.tup (rs.map rideD)) = true := rideEnc.tup.dok 60 rs (by omega)
  simp -dsimp [fIsi, hd.ty, hd.view, hk, hp, hd.iter]
  refine wp_for (f := rideD) rs (fun _ _ => EnvI S [some (.loc l), some d] 1 True) rfl ⟨[none], rfl, rfl, rfl, trivial⟩ ?_ ?_
  · rintro pre r rest env S' hp ⟨t, ht, rfl, rfl, _⟩
    obtain ⟨x, rfl⟩ := len1 ht
    have hm : r ∈ rs := by rw [← hp]; simp
    refine ⟨_, rfl, ?_⟩
    simp -dsimp [h1, need_ride_eq N (R.go r hm) (num_ok H (R.has r hm))]
    exact ⟨[_], rfl, rfl, rfl, trivial⟩
  · rintro env S' ⟨t, ht, rfl, rfl, _⟩
    exact ⟨rfl, rfl⟩
theorem judged_eq (H : NetOk ps ls) (hd : RTup d rs) (R : Row ls rs) : M_judged_duty [netD ps ls, d] S = .ok (.str (dw ls rs)) (S ++ netO S.length ps ls) := by
  have N : NetAt (S ++ netO S.length ps ls) S.length ps ls := netAt_new
  apply eq_of_wp
  unfold M_judged_duty
  apply wp_body
  unfold b_judged_duty
  simp -dsimp [init_eq H, need_rides_eq H N hd R, duty_eq H N hd R.ne R.has R.len, dw_ne]
theorem enum_range (ds : List D) : enumD 0 ds = (List.range ds.length).map fun i : Nat => D.tup [.int i, ds.getD i .none] := by
  refine List.ext_getElem? fun i => ?_
  by_cases h : i < ds.length
  · have e : ∀ (xs : List D) (n i : Nat), i < xs.length → (enumD n xs)[i]? = some (.tup [.int ((n + i : Nat) : Int), xs.getD i .none]) := by
      intro xs
      induction xs with
      | nil => intro n i h; simp at h
      | cons a xs ih =>
        intro n i h
        cases i with
        | zero => simp [enumD]
        | succ i =>
          simp only [enumD, List.getElem?_cons_succ]
          rw [ih (n + 1) i (by simpa using h), show n + 1 + i = n + (i + 1) by omega]
          simp
    rw [e ds 0 i h, List.getElem?_map, List.getElem?_range h]
    simp
  · have e : ∀ (xs : List D) (n : Nat), (enumD n xs).length = xs.length := by
      intro xs
      induction xs with
      | nil => intro n; rfl
      | cons a xs ih => intro n; simp [enumD, ih]
    rw [List.getElem?_eq_none (by rw [e]; omega), List.getElem?_eq_none (by simp; omega)]
/-- the one ahead -/
def prevOf (rss : List (List Ride)) : Nat → Option (List Ride)
  | 0 => none
  | k + 1 => rss[k]?
theorem rested_step {ls : List Leg} {rss : List (List Ride)} {k : Nat} {rs : List Ride} (h : rss[k]? = some rs) : restedOf ls k (prevOf rss k) (rss.drop k) = if dw ls rs ≠ "" then some (k, dw ls rs) else match prevOf rss k with
    | none => restedOf ls (k + 1) (prevOf rss (k + 1)) (rss.drop (k + 1))
    | some p => match restW ls p rs with
      | some w => some (k, w)
      | none => restedOf ls (k + 1) (prevOf rss (k + 1)) (rss.drop (k + 1)) := by
  obtain ⟨hk, e⟩ := List.getElem?_eq_some_iff.mp h
  rw [List.drop_eq_getElem_cons hk, e]
  have : prevOf rss (k + 1) = some rs := h
  rw [this]
  rfl
theorem rested_end {ls : List Leg} {rss : List (List Ride)} {k : Nat} (h : rss.length ≤ k) : restedOf ls k (prevOf rss k) (rss.drop k) = none := by
  rw [List.drop_eq_nil_of_le h]
  cases prevOf rss k <;> rfl
theorem RTups.at_ {ds : List D} {rss : List (List Ride)} (h : RTups ds rss) {k : Nat} (hk : k < ds.length) : ∃ d rs, ds[k]? = some d ∧ rss[k]? = some rs ∧ RTup d rs := by
  obtain ⟨rs, e1, e2⟩ := h.get (List.getElem?_eq_getElem hk)
  exact ⟨_, rs, List.getElem?_eq_getElem hk, e1, e2⟩
theorem rested_eq {v : D} {ds : List D} {rss : List (List Ride)} (H : NetOk ps ls) (hv : LV S v ds) (hd : RTups ds rss) (R : ∀ rs ∈ rss, Row ls rs) : M_rested [netD ps ls, v] S = .ok (restD (restedOf ls 0 none rss)) (S ++ netO S.length ps ls) := by
  have N : NetAt (S ++ netO S.length ps ls) S.length ps ls := netAt_new
  obtain ⟨c, g, h1, h2, h3⟩ := N.ex
  apply eq_of_wp
  unfold M_rested
  apply wp_body
  unfold b_rested
  have hv := hv.app (netO S.length ps ls)
  simp -dsimp [init_eq H, -wq_sFor, -sFor_at]
  generalize S ++ netO S.length ps ls = S1 at *
  refine wp_for_LV (f := fun d => d) (v := v) ds (fun _ _ => EnvI S1 [some (netD ps ls), some v, some (.loc S.length)] 6 True) (by simp) (by simpa using hv) (fun _ _ _ _ _ hI => by obtain ⟨_, _, _, rfl, _⟩ := hI; simpa using hv) ⟨_, rfl, rfl, rfl, trivial⟩ ?_ ?_
  · rintro pre x rest env S' hp ⟨t, ht, rfl, rfl, _⟩
    obtain ⟨x3, x4, x5, x6, x7, x8, rfl⟩ := len6 ht
    have hk : pre.length < ds.length := by rw [← hp]; simp
    obtain ⟨d, rs, e1, e2, hdd⟩ := hd.at_ hk
    have : d = x := by rw [← hp] at e1; simpa using e1.symm
    subst this
    refine ⟨_, rfl, ?_⟩
    simp -dsimp [need_rides_eq H N hdd (R rs (List.mem_of_getElem? e2))]
    exact ⟨[_, _, _, _, _, _], rfl, rfl, rfl, trivial⟩
  · rintro env S' ⟨t, ht, rfl, rfl, _⟩
    obtain ⟨x3, x4, x5, x6, x7, x8, rfl⟩ := len6 ht
    simp -dsimp [-wq_sFor, -sFor_at]
    refine wp_forE_LV (f := fun d => d) (v := v) ds (fun pre _ => EnvI S' [some (netD ps ls), some v, some (.loc S.length)] 6 (restedOf ls 0 none rss = restedOf ls pre.length (prevOf rss pre.length) (rss.drop pre.length))) (by simp) (by simpa using hv) (fun _ _ _ _ _ hI => by obtain ⟨_, _, _, rfl, _⟩ := hI; simpa using hv) ⟨[_, _, _, _, _, _], rfl, rfl, rfl, rfl⟩ ?_ ?_
    · rintro pre xx rest env S2 hp ⟨t, ht, rfl, rfl, hw⟩
      obtain ⟨x3, x4, x5, x6, x7, x8, rfl⟩ := len6 ht
      have hk : pre.length < ds.length := by rw [← hp]; simp
      obtain ⟨d, rs, e1, e2, hdd⟩ := hd.at_ hk
      have Rr := R rs (List.mem_of_getElem? e2)
      have e3 : xx = d := by rw [← hp] at e1; simpa using e1
      subst e3
      have vix := hv.ix
      rw [rested_step e2] at hw
      have dwn := dw_ok ls rs
      have hdu := duty_eq H N hdd Rr.ne Rr.has Rr.len
      rw [dw_ne] at hdu
      refine ⟨_, rfl, ?_⟩
      simp -dsimp [e1, hdu, dwn, ok_e]
      by_cases q1 : dw ls rs = ""
      · rw [if_neg (fun z => z q1)] at hw
        simp -dsimp [q1]
        by_cases q2 : 0 < pre.length
        · obtain ⟨j, hj⟩ : ∃ j, pre.length = j + 1 := ⟨pre.length - 1, by omega⟩
          obtain ⟨p, ps', e4, e5, hpp⟩ := hd.at_ (show j < ds.length by omega)
          have Rp := R ps' (List.mem_of_getElem? e5)
          have hpv : prevOf rss pre.length = some ps' := by rw [hj]; exact e5
          rw [hpv] at hw
          have e6 : atI ds ((pre.length : Int) - 1) = some p := by
            rw [show (pre.length : Int) - 1 = (j : Nat) by omega, atI_nat (by omega), e4]
          have m1 := Rp.has _ (first_mem Rp.ne)
          have m2 := Rp.has _ (end_mem Rp.ne)
          have m3 := Rr.has _ (first_mem Rr.ne)
          have n2 := names_ok H m2
          have n3 := names_ok H m3
          simp -dsimp [q2, vix, e6, hpp.ix, hdd.ix, atI_map, ix_first Rp.ne, ix_end Rp.ne, ix_first Rr.ne, h1, mleave_eq N m1, marrive_eq N m2, mgoal_eq N m2, mstart_eq N m3, mleave_eq N m3, n2, n3]
          by_cases q3 : rGoal ls (rEnd ps') = rStart ls (rFirst rs)
          · simp -dsimp [q3, hdd.ix, atI_map, ix_first Rr.ne, h1, mleave_eq N m3]
            simp only [restW, q3, ne_eq, not_true_eq_false, if_false] at hw
            by_cases q4 : rLeave ls (rFirst rs) - 60 < rArrive ls (rEnd ps') + 30 + max 600 (rArrive ls (rEnd ps') + 30 - (rLeave ls (rFirst ps') - 60))
            · simp only [q4, if_true] at hw
              simp -dsimp [q4, hw, restD]
            · simp only [q4, if_false] at hw
              simp -dsimp [q4]
              exact ⟨[_, _, _, _, _, _], rfl, rfl, rfl, by first | exact hw | (rw [hw]; done) | (rw [hw]; rfl) | (rw [hw, List.length_append]; rfl)⟩
          · simp only [restW, q3, ne_eq, not_false_eq_true, if_true] at hw
            simp -dsimp [q3, hw, restD]
        · have hj : pre.length = 0 := by omega
          have hpv : prevOf rss pre.length = none := by rw [hj]; rfl
          rw [hpv] at hw
          simp -dsimp [q2]
          exact ⟨[_, _, _, _, _, _], rfl, rfl, rfl, by first | exact hw | (rw [hw]; done) | (rw [hw]; rfl) | (rw [hw, List.length_append]; rfl)⟩
      · rw [if_pos q1] at hw
        simp -dsimp [q1, hw, restD]
    · rintro env S2 ⟨t, ht, rfl, rfl, hw⟩
      have hw : restedOf ls 0 none rss = none := by
        rw [hw, hd.length, rested_end (Nat.le_refl _)]
      simp -dsimp [hw, restD]
end
end DL

set_option Elab.async false
set_option linter.all false
set_option maxRecDepth 100000
set_option maxHeartbeats 4000000
/-! C5: cut, the program's and the law's. -/
namespace DL
open PySem PySem.Spec PyProof.Rows L2 LamX
/-- how many of the first rides make a duty, as many as can be of n -/
def bestN (ls : List Leg) (rs : List Ride) : Nat → Option Nat
  | 0 => none
  | n + 1 => if dw ls (rs.take (n + 1)) = "" then some (n + 1) else bestN ls rs n
theorem best_le {ls : List Leg} {rs : List Ride} : ∀ {n k : Nat}, bestN ls rs n = some k → 0 < k ∧ k ≤ n ∧ dw ls (rs.take k) = ""
  | 0, _, h => by cases h
  | n + 1, k, h => by
    unfold bestN at h
    split at h
    · rename_i e; cases h; exact ⟨by omega, by omega, e⟩
    · obtain ⟨a, b, c⟩ := best_le h; exact ⟨a, by omega, c⟩
/-- cut into duties, each as many as can be -/
def cutOf (ls : List Leg) : Nat → List Ride → Option (List (List Ride))
  | 0, _ => some []
  | n + 1, rs => if rs = [] then some [] else match bestN ls rs rs.length with
    | none => none
    | some k => (cutOf ls n (rs.drop k)).map (rs.take k :: ·)
theorem cutOf_nil (ls : List Leg) (n : Nat) : cutOf ls n [] = some [] := by cases n <;> simp [cutOf]
theorem cutOf_more (ls : List Leg) : ∀ (n m : Nat) (rs : List Ride), rs.length ≤ n → rs.length ≤ m → cutOf ls n rs = cutOf ls m rs
  | 0, m, rs, h, _ => by
    have : rs = [] := List.length_eq_zero_iff.mp (by omega)
    subst this; rw [cutOf_nil, cutOf_nil]
  | n + 1, 0, rs, _, h => by
    have : rs = [] := List.length_eq_zero_iff.mp (by omega)
    subst this; rw [cutOf_nil, cutOf_nil]
  | n + 1, m + 1, rs, h1, h2 => by
    unfold cutOf
    split
    · rfl
    · split
      · rfl
      · rename_i k e
        have := best_le e
        rw [cutOf_more ls n m (rs.drop k) (by simp; omega) (by simp; omega)]
/-- the cut, or none -/
def cutA (ls : List Leg) (rs : List Ride) : Option (List (List Ride)) := cutOf ls rs.length rs
theorem cutA_nil (ls : List Leg) : cutA ls [] = some [] := rfl
theorem cutA_ne {ls : List Leg} {rs : List Ride} (h : rs ≠ []) : cutA ls rs = match bestN ls rs rs.length with
    | none => none
    | some k => (cutA ls (rs.drop k)).map (rs.take k :: ·) := by
  unfold cutA
  obtain ⟨n, hn⟩ : ∃ n, rs.length = n + 1 := ⟨rs.length - 1, by have := List.length_pos_iff.mpr h; omega⟩
  rw [hn]
  conv => lhs; unfold cutOf
  rw [if_neg h, ← hn]
  split
  · rfl
  · rename_i k e
    have := best_le e
    rw [cutOf_more ls n (rs.drop k).length (rs.drop k) (by simp; omega) (by simp)]
theorem cutA_rows {ls : List Leg} : ∀ {n : Nat} {rs : List Ride} {rss : List (List Ride)}, rs.length ≤ n → (rs ≠ [] → Row ls rs) → cutA ls rs = some rss → ∀ x ∈ rss, Row ls x
  | 0, rs, rss, h, _, e => by
    have : rs = [] := List.length_eq_zero_iff.mp (by omega)
    subst this
    rw [cutA_nil] at e; cases e; exact nofun
  | n + 1, rs, rss, h, R, e => by
    by_cases hr : rs = []
    · subst hr; rw [cutA_nil] at e; cases e; exact nofun
    · rw [cutA_ne hr] at e
      split at e
      · cases e
      · rename_i k hk
        obtain ⟨k1, k2, _⟩ := best_le hk
        obtain ⟨t, e1, rfl⟩ := Option.map_eq_some_iff.mp e
        intro x hx
        rcases List.mem_cons.mp hx with rfl | hx
        · exact (R hr).take k1
        · refine cutA_rows (n := n) (by simp; omega) (fun hne => ?_) e1 x hx
          exact (R hr).drop (by
            by_cases hk3 : k < rs.length
            · exact hk3
            · exact absurd (List.drop_eq_nil_of_le (by omega)) hne)
theorem cutA_len {ls : List Leg} : ∀ {n : Nat} {rs : List Ride} {rss : List (List Ride)}, rs.length ≤ n → cutA ls rs = some rss → rss.length ≤ rs.length
  | 0, rs, rss, h, e => by
    have : rs = [] := List.length_eq_zero_iff.mp (by omega)
    subst this
    rw [cutA_nil] at e; cases e; simp
  | n + 1, rs, rss, h, e => by
    by_cases hr : rs = []
    · subst hr; rw [cutA_nil] at e; cases e; simp
    · rw [cutA_ne hr] at e
      split at e
      · cases e
      · rename_i k hk
        obtain ⟨k1, k2, _⟩ := best_le hk
        obtain ⟨t, e1, rfl⟩ := Option.map_eq_some_iff.mp e
        have := cutA_len (n := n) (by simp; omega) e1
        simp at this ⊢; omega
/-- neither place nor gap -/
def cBad (ls : List Leg) (rs : List Ride) : Prop := dw ls rs = "place" ∨ dw ls rs = "gap"
instance (ls : List Leg) (rs : List Ride) : Decidable (cBad ls rs) := by unfold cBad; exact inferInstance
section
variable {S : Sto} {l : Nat} {ps : List (Str × Int)} {ls : List Leg} {d : D} {rs : List Ride}
theorem in_two {w : Str} (hw : PyData.strOk w = true) : dIn S (.str w) (.tup [.str "place", .str "gap"]) = some (decide (w = "place" ∨ w = "gap")) := by
  have h : ([D.str "place", D.str "gap"].any fun z => peq z (.str w)) = decide (w = "place" ∨ w = "gap") := by
    rw [Bool.eq_iff_iff]
    simp only [List.any_cons, List.any_nil, Bool.or_false, peq_str, Bool.or_eq_true, decide_eq_true_eq]
    exact or_congr eq_comm eq_comm
  have h2 : dok 60 (.str w) = true := by rw [dok_str]; exact hw
  have h3 : dok 60 (.tup [.str "place", .str "gap"]) = true := by
    rw [dok_tup60]
    simp only [List.all_cons, List.all_nil, dok_str, ok_place, ok_gap, Bool.and_self]
  simp only [dIn, view_tup, h, h2, h3, Bool.and_self, if_true]
/-- the last of what fits -/
theorem filter_best {ls : List Leg} {rs : List Ride} : ∀ n : Nat, (((List.range n).map (· + 1)).filter fun k => decide (dw ls (rs.take k) = "")).getLast? = bestN ls rs n
  | 0 => rfl
  | n + 1 => by
    rw [List.range_succ, List.map_append, List.filter_append]
    unfold bestN
    by_cases h : dw ls (rs.take (n + 1)) = ""
    · rw [if_pos h]
      simp [h]
    · rw [if_neg h, ← filter_best n]
      simp [h]
/-- what stands in the law's cut -/
structure LcI (S0 : Sto) (ps : List (Str × Int)) (ls : List Leg) (d : D) (rs0 : List Ride) (n : Nat) (env : En) (S : Sto) : Prop where
  ex : ∃ (ds : List D) (fs : List (List Ride)) (e : D) (rs : List Ride) (x4 x5 : Option D), env = [some (netD ps ls), some d, some (.lst ds), some e, x4, x5] ∧ S = S0 ∧ RTups ds fs ∧ RTup e rs ∧ rs.length ≤ n ∧ (rs ≠ [] → Row ls rs) ∧ cutA ls rs0 = (cutA ls rs).map (fs ++ ·) ∧ ds.length + rs.length ≤ 1000
/-- what the law's cut gives -/
def cutD2 (ls : List Leg) (rs : List Ride) (r : D) : Prop := if cBad ls rs then r = .str "BadChain" else match cutA ls rs with
  | none => r = .str "NoDuty"
  | some rss => ∃ ds, r = .lst ds ∧ RTups ds rss
theorem rng2_map (n : Nat) : rngD 1 n = ((List.range n).map (· + 1)).map fun i : Nat => D.int i := by
  unfold rngD
  rw [List.map_map]
  refine List.map_congr_left fun i _ => ?_
  simp only [Function.comp_apply, D.int.injEq]
  omega
end
end DL

set_option Elab.async false
set_option linter.all false
set_option maxRecDepth 100000
set_option maxHeartbeats 4000000
/-! C6: the program's cut. -/
namespace DL
open PySem PySem.Spec PyProof.Rows L2 LamX
section
variable {S : Sto} {l : Nat} {ps : List (Str × Int)} {ls : List Leg} {d : D} {rs : List Ride}
/-- what stands in the program's cut -/
structure PcI (S1 : Sto) (dn d dh : D) (ls : List Leg) (rs : List Ride) (n : Nat) (env : En) (S : Sto) : Prop where
  ex : ∃ (ds : List D) (fs : List (List Ride)) (b : Nat) (x5 : Option D), env = [some dn, some d, some dh, some (.loc S1.length), some (.int b), x5] ∧ S = S1 ++ [.lst ds] ∧ RTups ds fs ∧ b ≤ rs.length ∧ rs.length - b ≤ n ∧ ds.length ≤ b ∧ cutA ls rs = (cutA ls (rs.drop b)).map (fs ++ ·)
structure PdI (S2 : Sto) (front : En) (ls : List Leg) (rs : List Ride) (b n : Nat) (env : En) (S : Sto) : Prop where
  ex : ∃ (e : Nat), env = front ++ [some (.int e)] ∧ S = S2 ∧ b < e ∧ e ≤ rs.length ∧ e - b ≤ n ∧ bestN ls (rs.drop b) (rs.drop b).length = bestN ls (rs.drop b) (e - b)
def CutQ (ls : List Leg) (rs : List Ride) (S : Sto) (v : D) (S' : Sto) : Prop := ∃ l ds rss G, v = .loc l ∧ S' = S ++ G ∧ S'[l]? = some (.lst ds) ∧ ¬cBad ls rs ∧ cutA ls rs = some rss ∧ RTups ds rss
def CutE (ls : List Leg) (rs : List Ride) (S : Sto) (x : XV) (S' : Sto) : Prop := ∃ G, S' = S ++ G ∧ ((cBad ls rs ∧ x = ⟨"BadChain", []⟩) ∨ (¬cBad ls rs ∧ cutA ls rs = none ∧ x = ⟨"NoDuty", []⟩))
theorem cut_wp (H : NetOk ps ls) (hd : RTup d rs) (R : Row ls rs) : Res.wp (M_cut [netD ps ls, d] S) (CutQ ls rs S) (CutE ls rs S) := by
  have N : NetAt (S ++ netO S.length ps ls) S.length ps ls := netAt_new
  have hlen := R.len
  unfold M_cut
  apply wp_body
  unfold b_cut
  have hwd := duty_eq H N hd R.ne R.has R.len
  rw [dw_ne] at hwd
  simp -dsimp [init_eq H, need_rides_eq H N hd R, hwd, in_two (dw_ok ls rs)]
  obtain ⟨G1, hG1⟩ : ∃ G, G = netO S.length ps ls := ⟨_, rfl⟩
  rw [← hG1] at N hwd ⊢
  by_cases q1 : cBad ls rs
  · have q1' := q1
    unfold cBad at q1
    simp -dsimp [q1]
    exact ⟨G1, rfl, .inl ⟨q1', rfl⟩⟩
  have q1' := q1
  unfold cBad at q1
  simp -dsimp [q1, ← List.append_assoc]
  obtain ⟨S1, hS1⟩ : ∃ S1, S1 = S ++ G1 := ⟨_, rfl⟩
  have hlS : S.length + G1.length = S1.length := by rw [hS1]; simp
  rw [hlS, ← hS1]
  rw [← hS1] at N
  refine wp_while (fun n => PcI S1 (netD ps ls) d (.loc S.length) ls rs n) ?_ _ rs.length _ _ (by unfold fuelW; omega) ⟨[], [], 0, _, rfl, rfl, .nil, by omega, by omega, by simp, by simp⟩
  rintro n env S' ⟨ds, fs, b, x5, rfl, rfl, hds, hb, hn, hdl, hc⟩
  simp -dsimp [hd.len]
  by_cases hbl : b < rs.length
  · have hne : rs.drop b ≠ [] := fun z => by have := congrArg List.length z; simp at this; omega
    have Rb := R.drop hbl
    simp -dsimp [hbl, hd.len]
    have N2 := N.app [.lst ds]
    refine wp_while (fun n => PdI (S1 ++ [.lst ds]) [some (netD ps ls), some d, some (.loc S.length), some (.loc S1.length), some (.int b)] ls rs b n) ?_ _ rs.length _ _ (by unfold fuelW; omega) ⟨rs.length, rfl, rfl, hbl, Nat.le_refl _, by omega, by rw [List.length_drop]⟩
    rintro m env S' ⟨e, rfl, rfl, he1, he2, he3, hbest⟩
    obtain ⟨d', c1, c2⟩ := hd.cut (some (b : Int)) (some (e : Int))
    rw [cut_both rs he2 (by omega)] at c2
    rw [← hd.view0 (S1 ++ [.lst ds])] at c1
    have Re : Row ls ((rs.drop b).take (e - b)) := Rb.take (by omega)
    have hwe := duty_eq H N2 c2 Re.ne Re.has Re.len
    rw [dw_ne] at hwe
    simp -dsimp [c1, hwe, dw_ok, ok_e]
    obtain ⟨j, hj⟩ : ∃ j, e - b = j + 1 := ⟨e - b - 1, by omega⟩
    by_cases hq : dw ls ((rs.drop b).take (e - b)) = ""
    · simp -dsimp [hq, isLstB, bAppend, c1]
      rw [if_pos (by omega)]
      simp -dsimp
      have hbn : bestN ls (rs.drop b) (rs.drop b).length = some (e - b) := by
        rw [hbest, hj]; unfold bestN; rw [← hj, if_pos hq]
      rw [cutA_ne hne, hbn] at hc
      refine ⟨rs.length - e, by omega, ds ++ [d'], fs ++ [(rs.drop b).take (e - b)], e, _, rfl, rfl, hds.append (.cons c2 .nil), he2, Nat.le_refl _, by simp; omega, ?_⟩
      rw [hc, Option.map_map, List.drop_drop, show b + (e - b) = e by omega]
      refine congrArg (fun f => Option.map f (cutA ls (rs.drop e))) (funext fun t => ?_)
      simp only [Function.comp_apply, List.append_assoc, List.singleton_append]
    · have hbn : bestN ls (rs.drop b) (rs.drop b).length = bestN ls (rs.drop b) (e - b - 1) := by
        rw [hbest, hj]
        conv => lhs; unfold bestN
        rw [← hj, if_neg hq]; congr 1; omega
      simp -dsimp [hq]
      by_cases hz : e = b + 1
      · have hz1 : (e : Int) - 1 = b := by omega
        simp -dsimp [hz1]
        rw [show e - b - 1 = 0 by omega] at hbn
        rw [cutA_ne hne, hbn] at hc
        exact ⟨G1 ++ [.lst ds], by rw [hS1]; simp, .inr ⟨q1', by rw [hc]; rfl, rfl⟩⟩
      · have hz1 : ¬ ((e : Int) - 1 = b) := by omega
        simp -dsimp [hz1]
        exact ⟨m - 1, by omega, e - 1, by rw [show (e : Int) - 1 = ((e - 1 : Nat) : Int) by omega]; rfl, rfl, by omega, by omega, by omega, by rw [hbn, show e - 1 - b = e - b - 1 by omega]⟩
  · simp -dsimp [hbl]
    rw [List.drop_eq_nil_of_le (by omega), cutA_nil] at hc
    exact ⟨S1.length, ds, fs, G1 ++ [.lst ds], rfl, by rw [hS1]; simp, by simp, q1', by rw [hc]; simp, hds⟩
end
end DL

set_option Elab.async false
set_option linter.all false
set_option maxRecDepth 100000
set_option maxHeartbeats 4000000
/-! D7a: k07's own words of duties. -/
namespace DL
open PySem PySem.Spec PyProof.Rows L2 LamX
section
variable {S : Sto} {l : Nat} {ps : List (Str × Int)} {ls : List Leg} {d : D} {rs : List Ride}
theorem law_times_eq (nd : (ls.map (·.num)).Nodup) (hl : ls.length ≤ 1000000) {r : Ride} (hr : HasLeg ls r.2) : M_law_times [netD ps ls, rideD r] S = .ok (.tup [.int (rLeave ls r), .int (rArrive ls r)]) S := by
  have k4 : ∀ (S' : Sto) (l : Leg), fIx S' l.d (.int 4) = some (.int l.long) := fun _ _ => rfl
  apply eq_of_wp
  unfold M_law_times
  apply wp_body
  unfold b_law_times
  simp -dsimp [law_leave_eq nd hl hr, law_leg_eq nd hl hr, k4]
  rfl
theorem law_word_eq (H : NetOk ps ls) (hd : RTup d rs) (ne : rs ≠ []) (hr : ∀ r ∈ rs, HasLeg ls r.2) (hl : rs.length ≤ 1000) : M_law_word [netD ps ls, d] S = .ok (.str (dutyWord ls rs ne)) S := by
  have nd := H.nd
  have hll : ls.length ≤ 1000000 := by have := H.len; omega
  have hpos : 0 < rs.length := List.length_pos_iff.mpr ne
  have k1 : ∀ (S' : Sto) (l : Leg), fIx S' l.d (.int 1) = some (.str l.start) := fun _ _ => rfl
  have k2 : ∀ (S' : Sto) (l : Leg), fIx S' l.d (.int 2) = some (.str l.goal) := fun _ _ => rfl
  have k4 : ∀ (S' : Sto) (l : Leg), fIx S' l.d (.int 4) = some (.int l.long) := fun _ _ => rfl
  apply eq_of_wp
  unfold M_law_word
  apply wp_body
  unfold b_law_word
  have s1 : smallI (rs.length : Int) = true := smallI_of (by omega)
  have s2 : smallI 1 = true := smallI_1
  simp -dsimp [hd.len, s1, s2, rngD_map]
  refine wp_for (f := fun i : Nat => D.int (1 + (i : Int))) (List.range (rs.length - 1)) (fun pre _ => EnvI S [some (netD ps ls), some d] 3 (pw ls (rs.zip rs.tail) = pw ls ((rs.zip rs.tail).drop pre.length))) (by congr 2) ⟨[_, _, _], rfl, rfl, rfl, rfl⟩ ?_ ?_
  · rintro pre k rest env S' hp ⟨t, ht, rfl, rfl, hw⟩
    obtain ⟨x2, x3, x4, rfl⟩ := len3 ht
    obtain ⟨rfl, hk⟩ := range_at hp
    refine ⟨_, rfl, ?_⟩
    have hk2 : pre.length + 1 < rs.length := by omega
    rw [zip_tail_at rs _ hk2, pw_cons] at hw
    have e1 : atI (rs.map rideD) (1 + (pre.length : Int) - 1) = some (rideD (rs[pre.length]'(by omega))) := by
      rw [show (1 + (pre.length : Int) - 1) = (pre.length : Int) by omega, atI_map, atI_nat (by omega), List.getElem?_eq_getElem (by omega)]; rfl
    have e2 : atI (rs.map rideD) (1 + (pre.length : Int)) = some (rideD rs[pre.length + 1]) := by
      rw [show (1 + (pre.length : Int)) = ((pre.length + 1 : Nat) : Int) by omega, atI_map, atI_nat (by omega), List.getElem?_eq_getElem (by omega)]; rfl
    have m1 := hr _ (List.getElem_mem (show pre.length < rs.length by omega))
    have m2 := hr _ (List.getElem_mem hk2)
    generalize rs[pre.length]'(by omega) = a at *
    generalize rs[pre.length + 1] = b at *
    have n1 := names_ok H m1
    have n2 := names_ok H m2
    have g1 := law_leg_eq (S := S') (ps := ps) nd hll m1
    have g2 := law_leg_eq (S := S') (ps := ps) nd hll m2
    have g3 := law_times_eq (S := S') (ps := ps) nd hll m1
    have g4 := law_times_eq (S := S') (ps := ps) nd hll m2
    unfold rStart rGoal at n1 n2 hw
    simp -dsimp [hd.ix, e1, e2, g1, g2, k1, k2, n1, n2]
    by_cases q1 : (legOf ls a.2).goal = (legOf ls b.2).start
    · simp -dsimp [q1, hd.ix, e1, e2, g3, g4]
      rw [if_neg (fun z => z q1)] at hw
      by_cases q2 : rLeave ls b < rArrive ls a + 30
      · simp -dsimp [q2]
        rw [if_pos q2] at hw
        unfold dutyWord
        rw [hw]
      · simp -dsimp [q2]
        rw [if_neg q2] at hw
        exact ⟨[_, _, _], rfl, rfl, rfl, by simpa using hw⟩
    · simp -dsimp [q1]
      rw [if_pos q1] at hw
      unfold dutyWord
      rw [hw]
  · rintro env S' ⟨t, ht, rfl, rfl, hw⟩
    obtain ⟨x2, x3, x4, rfl⟩ := len3 ht
    have hw : pw ls (rs.zip rs.tail) = none := by
      rw [hw, List.drop_eq_nil_of_le (by simp)]; rfl
    have hD : dutyWord ls rs ne = restWord ls rs ne := by unfold dutyWord; rw [hw]
    rw [hD]
    unfold restWord
    have e1 := atI_end ne
    have e2 := atI_first ne
    have m1 := hr _ (List.getLast_mem ne)
    have m2 := hr _ (List.head_mem ne)
    simp -dsimp [hd.len]
    by_cases q1 : (4 : Int) < rs.length
    · have q1n : 4 < rs.length := by omega
      simp -dsimp [q1, q1n]
    · have q1n : ¬ 4 < rs.length := by omega
      simp -dsimp [q1, q1n, hd.iter]
      refine wp_compI_pure (f := rideD) rs (fun _ => true) (fun r => .int (rLong ls r)) rfl (by omega) (fun x hx => ⟨_, rfl, rfl, fun _ => by simp [law_leg_eq nd hll (hr x hx), k4]; rfl⟩) ?_
      rw [filter_yes]
      have hs := fSum_ints S' (rs.map (rLong ls))
      rw [List.map_map] at hs
      have hs : fSum S' [.lst (rs.map fun r => D.int (rLong ls r))] = some (.int (rs.map (rLong ls)).sum) := hs
      simp -dsimp [hs]
      by_cases q2 : 540 < (rs.map (rLong ls)).sum
      · simp -dsimp [q1n, q2]
      · simp -dsimp [q1n, q2, hd.ix, atI_map, e1, e2, law_times_eq nd hll m1, law_times_eq nd hll m2]
        by_cases q3 : 840 < rArrive ls (rs.getLast ne) - rLeave ls (rs.head ne) + 90
        · simp -dsimp [q1n, q2, q3]
        · simp -dsimp [q1n, q2, q3]
theorem law_rested_eq {v : D} {ds : List D} {rss : List (List Ride)} (H : NetOk ps ls) (hv : LV S v ds) (hd : RTups ds rss) (R : ∀ rs ∈ rss, Row ls rs) (hl : ds.length ≤ 10000) : M_law_rested [netD ps ls, v] S = .ok (restD (restedOf ls 0 none rss)) S := by
  have nd := H.nd
  have hll : ls.length ≤ 1000000 := by have := H.len; omega
  have f1 : ∀ (S2 : Sto) r, fIx S2 (legOf ls r).d (.int 2) = some (.str (legOf ls r).goal) := fun _ r => rfl
  have f2 : ∀ (S2 : Sto) r, fIx S2 (legOf ls r).d (.int 1) = some (.str (legOf ls r).start) := fun _ r => rfl
  apply eq_of_wp
  unfold M_law_rested
  apply wp_body
  unfold b_law_rested
  have s1 : smallI (ds.length : Int) = true := smallI_of (by omega)
  simp -dsimp [hv.len, s1, rngD_map]
  refine wp_for (f := fun i : Nat => D.int i) (List.range ds.length) (fun pre _ => EnvI S [some (netD ps ls), some v] 5 (restedOf ls 0 none rss = restedOf ls pre.length (prevOf rss pre.length) (rss.drop pre.length))) rfl ⟨[_, _, _, _, _], rfl, rfl, rfl, rfl⟩ ?_ ?_
  · rintro pre k rest env S2 hp ⟨t, ht, rfl, rfl, hw⟩
    obtain ⟨x3, x4, x5, x6, x7, rfl⟩ := len5 ht
    obtain ⟨rfl, hk⟩ := range_at hp
    obtain ⟨d, rs, e1, e2, hdd⟩ := hd.at_ hk
    have Rr := R rs (List.mem_of_getElem? e2)
    have e3 : atI ds (pre.length : Int) = some d := by rw [atI_nat hk, e1]
    have vix := hv.ix
    rw [rested_step e2] at hw
    have dwn := dw_ok ls rs
    have hdu := law_word_eq (S := S2) H hdd Rr.ne Rr.has Rr.len
    rw [dw_ne] at hdu
    refine ⟨_, rfl, ?_⟩
    simp -dsimp [vix, e1, e3, hdu, dwn, ok_e]
    by_cases q1 : dw ls rs = ""
    · rw [if_neg (fun z => z q1)] at hw
      simp -dsimp [q1]
      by_cases q2 : 0 < pre.length
      · obtain ⟨j, hj⟩ : ∃ j, pre.length = j + 1 := ⟨pre.length - 1, by omega⟩
        obtain ⟨p, ps', e4, e5, hpp⟩ := hd.at_ (show j < ds.length by omega)
        have Rp := R ps' (List.mem_of_getElem? e5)
        have hpv : prevOf rss pre.length = some ps' := by rw [hj]; exact e5
        rw [hpv] at hw
        have e6 : atI ds ((pre.length : Int) - 1) = some p := by
          rw [show (pre.length : Int) - 1 = (j : Nat) by omega, atI_nat (by omega), e4]
        have m1 := Rp.has _ (first_mem Rp.ne)
        have m2 := Rp.has _ (end_mem Rp.ne)
        have m3 := Rr.has _ (first_mem Rr.ne)
        have n2 := names_ok H m2
        have n3 := names_ok H m3
        unfold rGoal rStart at n2 n3
        simp -dsimp [q2, vix, e3, e6, hpp.ix, hdd.ix, atI_map, ix_first Rp.ne, ix_end Rp.ne, ix_first Rr.ne, law_times_eq nd hll m1, law_times_eq nd hll m2, law_leg_eq nd hll m2, law_leg_eq nd hll m3, law_times_eq nd hll m3, f1, f2, n2, n3, ok_e]
        by_cases q3 : (legOf ls (rEnd ps').2).goal = (legOf ls (rFirst rs).2).start
        · have q3' : rGoal ls (rEnd ps') = rStart ls (rFirst rs) := q3
          simp -dsimp [q3, vix, e3, hdd.ix, atI_map, ix_first Rr.ne, law_times_eq nd hll m3, ok_e]
          simp only [restW, q3', ne_eq, not_true_eq_false, if_false] at hw
          by_cases q4 : rLeave ls (rFirst rs) - 60 < rArrive ls (rEnd ps') + 30 + max 600 (rArrive ls (rEnd ps') + 30 - (rLeave ls (rFirst ps') - 60))
          · simp only [q4, if_true] at hw
            have q5 : rLeave ls (rFirst rs) - 60 - (rArrive ls (rEnd ps') + 30) < max 600 (rArrive ls (rEnd ps') + 30 - (rLeave ls (rFirst ps') - 60)) := by omega
            simp -dsimp [q5, hw, restD, show PyData.strOk "rest" = true by decide +kernel, ok_e]
          · simp only [q4, if_false] at hw
            have q5 : ¬ rLeave ls (rFirst rs) - 60 - (rArrive ls (rEnd ps') + 30) < max 600 (rArrive ls (rEnd ps') + 30 - (rLeave ls (rFirst ps') - 60)) := by omega
            simp -dsimp [q5, ok_e, q1]
            exact ⟨[_, _, _, _, _], rfl, rfl, rfl, by first | exact hw | (rw [hw]; done) | (rw [hw]; rfl) | (rw [hw, List.length_append]; rfl)⟩
        · have q3' : ¬ rGoal ls (rEnd ps') = rStart ls (rFirst rs) := q3
          simp only [restW, q3', ne_eq, not_false_eq_true, if_true] at hw
          simp -dsimp [q3, hw, restD, ok_place, ok_e]
      · have hj : pre.length = 0 := by omega
        have hpv : prevOf rss pre.length = none := by rw [hj]; rfl
        rw [hpv] at hw
        simp -dsimp [q2, ok_e]
        exact ⟨[_, _, _, _, _], rfl, rfl, rfl, by first | exact hw | (rw [hw]; done) | (rw [hw]; rfl) | (rw [hw, List.length_append]; rfl)⟩
    · rw [if_pos q1] at hw
      simp -dsimp [q1, hw, restD, dwn, ok_e]
  · rintro env S2 ⟨t, ht, rfl, rfl, hw⟩
    have hw : restedOf ls 0 none rss = none := by
      rw [hw, List.length_range, hd.length, rested_end (Nat.le_refl _)]
    simp -dsimp [hw, restD]
end
end DL

set_option Elab.async false
set_option linter.all false
set_option maxRecDepth 100000
set_option maxHeartbeats 4000000
/-! D7b: a duty's beginnings are duties; k07's own cut. -/
namespace DL
open PySem PySem.Spec PyProof.Rows L2 LamX
theorem pw_none {ls : List Leg} : ∀ {t : List (Ride × Ride)}, pw ls t = none ↔ ∀ p ∈ t, rGoal ls p.1 = rStart ls p.2 ∧ rArrive ls p.1 + 30 ≤ rLeave ls p.2
  | [] => by unfold pw; simp
  | p :: t => by
    rw [pw_cons]
    constructor
    · intro h q hq
      split at h
      · cases h
      · rename_i h1
        split at h
        · cases h
        · rename_i h2
          rcases List.mem_cons.mp hq with rfl | hq
          · exact ⟨Decidable.not_not.mp h1, by omega⟩
          · exact (pw_none.mp h) q hq
    · intro h
      have := h p List.mem_cons_self
      rw [if_neg (fun z => z this.1), if_neg (by omega)]
      exact pw_none.mpr fun q hq => h q (List.mem_cons_of_mem _ hq)
theorem zip_tail_snoc : ∀ (xs : List Ride) (h : xs ≠ []) (r : Ride), (xs ++ [r]).zip (xs ++ [r]).tail = xs.zip xs.tail ++ [(xs.getLast h, r)]
  | [a], _, r => rfl
  | a :: b :: xs, _, r => by
    have := zip_tail_snoc (b :: xs) (by simp) r
    simp only [List.cons_append, List.tail_cons, List.zip_cons_cons] at this ⊢
    rw [this]
    simp
/-- what is no word at all -/
theorem dw_e {ls : List Leg} {rs : List Ride} (h : rs ≠ []) : dw ls rs = "" ↔ pw ls (rs.zip rs.tail) = none ∧ rs.length ≤ 4 ∧ (rs.map (rLong ls)).sum ≤ 540 ∧ rArrive ls (rs.getLast h) - rLeave ls (rs.head h) + 90 ≤ 840 := by
  rw [← dw_ne h]
  unfold dutyWord
  constructor
  · intro e
    split at e
    · rename_i w hw
      rcases pw_two hw with rfl | rfl
      · exact absurd e (str_ne (by decide))
      · exact absurd e (str_ne (by decide))
    · rename_i hw
      unfold restWord at e
      split at e
      · exact absurd e (str_ne (by decide))
      · split at e
        · exact absurd e (str_ne (by decide))
        · split at e
          · exact absurd e (str_ne (by decide))
          · exact ⟨hw, by omega, by omega, by omega⟩
  · rintro ⟨h1, h2, h3, h4⟩
    rw [h1]
    show restWord ls rs h = ""
    unfold restWord
    rw [if_neg (by omega), if_neg (by omega), if_neg (by omega)]
theorem sum_snoc (f : Ride → Int) (xs : List Ride) (r : Ride) : ((xs ++ [r]).map f).sum = (xs.map f).sum + f r := by
  rw [List.map_append, List.sum_append]; simp
theorem dw_snoc {ls : List Leg} {xs : List Ride} {r : Ride} (ne : xs ≠ []) (hl : 0 ≤ rLong ls r) (h : dw ls (xs ++ [r]) = "") : dw ls xs = "" := by
  rw [dw_e (by simp)] at h
  rw [dw_e ne]
  obtain ⟨h1, h2, h3, h4⟩ := h
  rw [zip_tail_snoc xs ne r, pw_none] at h1
  rw [List.length_append, List.length_singleton] at h2
  rw [sum_snoc] at h3
  have hz := h1 (xs.getLast ne, r) (by simp)
  have e1 : (xs ++ [r]).getLast (by simp) = r := by simp
  have e2 : (xs ++ [r]).head (by simp) = xs.head ne := by
    cases xs with
    | nil => exact absurd rfl ne
    | cons a l => rfl
  rw [e1, e2] at h4
  have ha : rArrive ls r = rLeave ls r + rLong ls r := rfl
  exact ⟨pw_none.mpr fun p hp => h1 p (List.mem_append_left _ hp), by omega, by omega, by have := hz.2; simp only at this; omega⟩
/-- how many beginnings are duties: just as many as the longest has rides -/
theorem filter_all {ls : List Leg} {rs : List Ride} (hl : ∀ r ∈ rs, 0 ≤ rLong ls r) : ∀ n : Nat, n ≤ rs.length → ((List.range n).filter fun k => decide (dw ls (rs.take (k + 1)) = "")).length = (bestN ls rs n).getD 0 ∧ (∀ k, bestN ls rs n = some k → ∀ j, 0 < j → j ≤ k → dw ls (rs.take j) = "")
  | 0, _ => ⟨rfl, fun k h => nomatch h⟩
  | n + 1, hn => by
    obtain ⟨ih1, ih2⟩ := filter_all hl n (by omega)
    rw [List.range_succ, List.filter_append, List.length_append]
    unfold bestN
    by_cases h : dw ls (rs.take (n + 1)) = ""
    · have down : ∀ j, j ≤ n → dw ls (rs.take (n + 1 - j)) = "" := by
        intro j
        induction j with
        | zero => intro _; exact h
        | succ j ihj =>
          intro hj
          have hk : n + 1 - (j + 1) < rs.length := by omega
          have e : rs.take (n + 1 - j) = rs.take (n + 1 - (j + 1)) ++ [rs[n + 1 - (j + 1)]] := by
            rw [show n + 1 - j = n + 1 - (j + 1) + 1 by omega, List.take_append_getElem hk]
          have hd := ihj (by omega)
          rw [e] at hd
          by_cases hz : n + 1 - (j + 1) = 0
          · omega
          · exact dw_snoc (by
              intro z
              have := congrArg List.length z
              rw [List.length_take, List.length_nil] at this
              omega) (hl _ (List.getElem_mem hk)) hd
      have all : ∀ j, 0 < j → j ≤ n + 1 → dw ls (rs.take j) = "" := fun j h0 h1 => by
        have := down (n + 1 - j) (by omega)
        rwa [show n + 1 - (n + 1 - j) = j by omega] at this
      rw [if_pos h]
      refine ⟨?_, fun k e => by cases e; exact all⟩
      have : (List.range n).filter (fun k => decide (dw ls (rs.take (k + 1)) = "")) = List.range n := List.filter_eq_self.mpr fun k hk => by
        simpa using all (k + 1) (by omega) (by have := List.mem_range.mp hk; omega)
      rw [this]
      simp [h]
    · rw [if_neg h]
      refine ⟨?_, ih2⟩
      simp [h, ih1]
section
variable {S : Sto} {l : Nat} {ps : List (Str × Int)} {ls : List Leg} {d : D} {rs : List Ride}
/-- what the law's cut gives, at S behind -/
def CutL (ls : List Leg) (rs : List Ride) (S : Sto) (r : D) (S' : Sto) : Prop := (∃ G, S' = S ++ G) ∧ if cBad ls rs then r = .str "BadChain" else match cutA ls rs with
  | none => r = .str "NoDuty"
  | some rss => ∃ l ds, r = .loc l ∧ S'[l]? = some (.lst ds) ∧ RTups ds rss
structure LkI (S0 : Sto) (ps : List (Str × Int)) (ls : List Leg) (d : D) (rs0 : List Ride) (n : Nat) (env : En) (S : Sto) : Prop where
  ex : ∃ (ds : List D) (fs : List (List Ride)) (rs : List Ride) (x4 x5 : Option D), env = [some (netD ps ls), some d, some (.loc S0.length), some (.lst (rs.map rideD)), x4, x5] ∧ S = S0 ++ [.lst ds] ∧ RTups ds fs ∧ rs.length ≤ n ∧ (rs ≠ [] → Row ls rs) ∧ cutA ls rs0 = (cutA ls rs).map (fs ++ ·) ∧ ds.length + rs.length ≤ 1000
theorem law_cut_wp (H : NetOk ps ls) (hd : RTup d rs) (R : Row ls rs) : Res.wp (M_law_cut [netD ps ls, d] S) (CutL ls rs S) NoE := by
  have hwd := law_word_eq (S := S) H hd R.ne R.has R.len
  rw [dw_ne] at hwd
  have hlen := R.len
  unfold M_law_cut
  apply wp_body
  unfold b_law_cut
  simp -dsimp [hwd, in_two (dw_ok ls rs)]
  by_cases q1 : cBad ls rs
  · unfold cBad at q1
    simp -dsimp [q1]
    exact ⟨⟨[], by simp⟩, by rw [if_pos (show cBad ls rs from q1)]⟩
  · have q1' := q1
    unfold cBad at q1
    have hli : ∀ S', fList S' [d] = some (.lst (rs.map rideD)) := fun S' => by rcases hd with rfl | rfl <;> rfl
    simp -dsimp [q1, hli]
    refine wp_while (fun n => LkI S ps ls d rs n) ?_ _ rs.length _ _ (by unfold fuelW; omega) ⟨[], [], rs, _, _, rfl, rfl, .nil, Nat.le_refl _, fun _ => R, by simp, by simpa using hlen⟩
    rintro n env S' ⟨ds, fs, rs1, x4, x5, rfl, rfl, hds, hn, R1, hc, hl⟩
    have hk : dok 60 (.lst (rs1.map rideD)) = true := rideEnc.lst.dok 60 rs1 (by omega)
    have hget : (S ++ [O.lst ds])[S.length]? = some (.lst ds) := by rw [get_at0]; rfl
    by_cases hne : rs1 = []
    · subst hne
      simp -dsimp
      rw [cutA_nil] at hc
      refine ⟨⟨_, rfl⟩, ?_⟩
      rw [if_neg q1', hc]
      exact ⟨S.length, ds, rfl, hget, by simpa using hds⟩
    · have Rr := R1 hne
      have hp : peqAll (rs1.map rideD) [] = false := by
        cases rs1 with
        | nil => exact absurd rfl hne
        | cons a l => simp
      have hs : smallI ((rs1.length : Int) + 1) = true := smallI_of (by omega)
      have hs1 : smallI 1 = true := smallI_1
      simp -dsimp [hk, hp, hs, hs1, rngD_map]
      refine wp_compI_pure (f := fun i : Nat => D.int (1 + (i : Int))) (List.range rs1.length) (fun k => decide (dw ls (rs1.take (k + 1)) = "")) (fun i => .int (1 + (i : Int))) (by congr 2) (by simp; omega) ?_ ?_
      · intro y hy
        refine ⟨_, rfl, ?_, fun _ => by simp⟩
        have hcut : cutD (rs1.map rideD) none (some (1 + (y : Int))) = (rs1.take (y + 1)).map rideD := by
          rw [show (1 + (y : Int)) = ((y + 1 : Nat) : Int) by omega, cut_to, List.map_take]
        have R2 := Rr.take (n := y + 1) (by omega)
        have hw2 := law_word_eq (S := S ++ [O.lst ds]) (d := .tpn ((rs1.take (y + 1)).map rideD)) H (.inr rfl) R2.ne R2.has R2.len
        rw [dw_ne] at hw2
        simp [-List.map_take, hcut, hw2, dw_ok, ok_e]
      · have hpos : ∀ r ∈ rs1, 0 ≤ rLong ls r := fun r hr => by
          have := (H.legs _ (legOf_mem (Rr.has r hr))).long
          unfold rLong
          omega
        have hb := (filter_all (ls := ls) (rs := rs1) hpos rs1.length (Nat.le_refl _)).1
        rw [cutA_ne hne] at hc
        generalize (List.range rs1.length).filter (fun k => decide (dw ls (rs1.take (k + 1)) = "")) = many at hb ⊢
        cases hbb : bestN ls rs1 rs1.length with
        | none =>
          rw [hbb] at hc hb
          have hb : many.length = 0 := hb
          have hb := List.length_eq_zero_iff.mp hb
          subst hb
          simp -dsimp
          refine ⟨⟨_, rfl⟩, ?_⟩
          rw [if_neg q1', hc]
          simp
        | some k =>
          rw [hbb] at hb hc
          have hb : many.length = k := hb
          obtain ⟨k1, k2, k3⟩ := best_le hbb
          have hk0 : ¬(k : Int) = 0 := by omega
          have hmn : ¬ many = [] := fun z => by rw [z] at hb; simp at hb; omega
          have hc1 : cutD (rs1.map rideD) none (some (k : Int)) = (rs1.take k).map rideD := by rw [cut_to, List.map_take]
          have hc2 : cutD (rs1.map rideD) (some (k : Int)) none = (rs1.drop k).map rideD := by rw [cut_from, List.map_drop]
          simp -dsimp [-List.map_take, -List.map_drop, hb, hk0, show ¬ k = 0 by omega, hmn, hc1, hc2, isLstB, bAppend]
          rw [if_pos (by omega)]
          simp -dsimp [-List.map_take, -List.map_drop, hc2]
          refine ⟨(rs1.drop k).length, by simp; omega, ds ++ [.tpn ((rs1.take k).map rideD)], fs ++ [rs1.take k], rs1.drop k, _, _, rfl, by first | rfl | simp, hds.append (.cons (.inr rfl) .nil), Nat.le_refl _, fun z => Rr.drop ?_, ?_, by simp; omega⟩
          · by_cases hk3 : k < rs1.length
            · exact hk3
            · exact absurd (List.drop_eq_nil_of_le (by omega)) z
          · rw [hc, Option.map_map]
            refine congrArg (fun f => Option.map f (cutA ls (rs1.drop k))) (funext fun t => ?_)
            simp only [Function.comp_apply, List.append_assoc, List.singleton_append]
end
end DL

set_option Elab.async false
set_option linter.all false
set_option maxRecDepth 100000
set_option maxHeartbeats 4000000
/-! D7c: what is the same; rows drawn; what is refused. -/
namespace DL
open PySem PySem.Spec PyProof.Rows L2 LamX
section
variable {S : Sto} {n : Nat}
theorem sme_str {x : Str} (h : PyData.strOk x = true) : Sme S (n + 1) (.str x) (.str x) := by
  unfold Sme M_law_same
  apply eq_of_wp
  apply wp_body
  simp -dsimp [fIsi, tysOf, h]
theorem sme_none : Sme S (n + 1) .none .none := by
  unfold Sme M_law_same
  apply eq_of_wp
  apply wp_body
  simp -dsimp [fIsi, tysOf]
theorem sme_rtup {a b : D} {rs : List Ride} (ha : RTup a rs) (hb : RTup b rs) (hl : rs.length ≤ 1000000) : Sme S (n + 3) a b := by
  refine sme_seq (t := "tuple") (xs := rs.map rideD) (ys := rs.map rideD) (.inl rfl) (ha.ty S) (hb.ty S) (by rw [ha.len]; simp) (by rw [hb.len]; simp) (ha.ix S) (hb.ix S) rfl (by simpa using hl) fun i x y h1 h2 => ?_
  rw [h1] at h2; cases h2
  obtain ⟨r, _, rfl⟩ := List.mem_map.mp (List.mem_of_getElem? h1)
  exact sme_two r.1 r.2
theorem sme_cut {v w : D} {ds es : List D} {rss : List (List Ride)} (hg : LV S v ds) (hw : LV S w es) (h1 : RTups ds rss) (h2 : RTups es rss) (hl : ∀ rs ∈ rss, rs.length ≤ 1000000) (hn : rss.length ≤ 1000000) : Sme S (n + 4) v w := by
  refine sme_seq (t := "list") (xs := ds) (ys := es) (.inr rfl) hg.ty hw.ty hg.len hw.len hg.ix hw.ix (by rw [h1.length, h2.length]) (by rw [h2.length]; exact hn) fun i x y e1 e2 => ?_
  obtain ⟨rs, e3, r1⟩ := h1.get e1
  obtain ⟨rs', e4, r2⟩ := h2.get e2
  rw [e3] at e4; cases e4
  exact sme_rtup r1 r2 (hl _ (List.mem_of_getElem? e3))
theorem sme_rest {p : Option (Nat × Str)} (h : ∀ q, p = some q → PyData.strOk q.2 = true) : Sme S (n + 2) (restD p) (restD p) := by
  cases p with
  | none => exact sme_none
  | some q =>
    refine sme_seq (t := "tuple") (xs := [.int q.1, .str q.2]) (ys := [.int q.1, .str q.2]) (.inl rfl) rfl rfl rfl rfl (fun _ => rfl) (fun _ => rfl) rfl (by simp) fun i x y h1 h2 => ?_
    rw [h1] at h2; cases h2
    match i, h1 with
    | 0, h1 => cases h1; exact sme_int _
    | 1, h1 => cases h1; exact sme_str (h q rfl)
    | i + 2, h1 => simp at h1
end
theorem restW_ok {ls : List Leg} {p rs : List Ride} {w : Str} (h : restW ls p rs = some w) : PyData.strOk w = true := by
  unfold restW at h
  split at h
  · cases h; exact ok_place
  · split at h
    · cases h; decide +kernel
    · cases h
theorem rested_ok {ls : List Leg} : ∀ {rss : List (List Ride)} {k : Nat} {prev : Option (List Ride)} {q : Nat × Str}, restedOf ls k prev rss = some q → PyData.strOk q.2 = true
  | [], k, prev, q, h => by cases prev <;> cases h
  | rs :: t, k, prev, q, h => by
    unfold restedOf at h
    split at h
    · cases h; exact dw_ok ls rs
    · split at h
      · exact rested_ok h
      · split at h
        · rename_i w e; cases h; exact restW_ok e
        · exact rested_ok h
/-- what stands as a row grows -/
structure ChI (sc : List Int) (T : Sto) (d1 d2 : D) (gap : Int) (rides : List Ride) (k : Nat) (env : En) (S : Sto) : Prop where
  ex : ∃ o fs tail, Dr sc o ∧ tail.length = 5 ∧ env = [some (.loc 0), some d1, some d2, some (.int gap), some (.lst (fs.map rideD))] ++ tail ∧ S = o :: T ∧ fs ≠ [] ∧ (∀ r ∈ fs, r ∈ rides) ∧ fs.length ≤ k + 1
theorem chain_wp {sc : List Int} {o : O} {T : Sto} {ps : List (Str × Int)} {ls : List Leg} {rides : List Ride} {gap : Int} {Q : D → Sto → Prop} {E : XV → Sto → Prop} (H : NetOk ps ls) (d : Dr sc o) (hne : rides ≠ []) (hg : ∀ r ∈ rides, rGoes ls r) (hl : rides.length ≤ 1000000)
    (k : ∀ o' rs, Dr sc o' → Row ls rs → rs.length ≤ 9 → Q (.tpn (rs.map rideD)) (o' :: T)) : Res.wp (M_law_chain [.loc 0, netD ps ls, .lst (rides.map rideD), .int gap] (o :: T)) Q E := by
  have nd := H.nd
  have hll : ls.length ≤ 1000000 := by have := H.len; omega
  have hpos : 0 < rides.length := List.length_pos_iff.mpr hne
  have f1' : ∀ (S : Sto) r, fIx S (legOf ls r).d (.int 2) = some (.str (legOf ls r).goal) := fun S r => rfl
  have f2' : ∀ (S : Sto) r, fIx S (legOf ls r).d (.int 1) = some (.str (legOf ls r).start) := fun S r => rfl
  unfold M_law_chain
  apply wp_body
  unfold b_law_chain
  simp -dsimp
  refine wp_drawn d (by omega) (by omega) fun v o1 d1 a1 a2 => ?_
  obtain ⟨dd, e1, r0, hr0, rfl⟩ := pick (xs := rides.map rideD) a1 (by simpa using a2) (fun d => ∃ r ∈ rides, d = rideD r) (fun d hd => by obtain ⟨r, hr, rfl⟩ := List.mem_map.mp hd; exact ⟨r, hr, rfl⟩)
  simp -dsimp [e1]
  refine wp_drawn d1 (by omega) (by omega) fun w o2 d2 b1 b2 => ?_
  have hs : smallI w = true := smallI_of (by omega)
  simp -dsimp [hs, rngD_map]
  refine wp_for (f := fun i : Nat => D.int i) (List.range w.toNat) (fun pre _ => ChI sc T (netD ps ls) (.lst (rides.map rideD)) gap rides pre.length) (by simp) ⟨o2, [r0], [_, _, _, _, _], d2, rfl, rfl, rfl, by simp, by simpa using hr0, by simp⟩ ?_ ?_
  · rintro pre i rest env S hp ⟨o3, fs, tail, d3, ht, rfl, rfl, f1, f2, f3⟩
    obtain ⟨x5, x6, x7, x8, x9, rfl⟩ := len5 ht
    obtain ⟨rfl, hi⟩ := range_at hp
    refine ⟨_, rfl, ?_⟩
    have m1 := (hg _ (f2 _ (end_mem f1))).has
    simp -dsimp [atI_map, ix_end f1, law_times_eq nd hll m1, law_leg_eq nd hll m1, f1']
    refine wp_compI_pure (f := rideD) rides (fun r => decide ((legOf ls r.2).start = (legOf ls (rEnd fs).2).goal) && decide (rArrive ls (rEnd fs) + gap ≤ rLeave ls r)) rideD rfl hl ?_ ?_
    · intro r hr
      have m2 := (hg _ hr).has
      have n1 := names_ok H m1
      have n2 := names_ok H m2
      refine ⟨_, rfl, ?_, fun _ => by simp⟩
      unfold rStart rGoal at n1 n2
      by_cases c : (legOf ls r.2).start = (legOf ls (rEnd fs).2).goal
      · simp [law_leg_eq nd hll m2, f2', n1, n2, c, law_leave_eq nd hll m2]
      · simp [law_leg_eq nd hll m2, f2', n1, n2, c]
    obtain ⟨g2, hg2⟩ : ∃ g2, g2 = rides.filter fun r => decide ((legOf ls r.2).start = (legOf ls (rEnd fs).2).goal) && decide (rArrive ls (rEnd fs) + gap ≤ rLeave ls r) := ⟨_, rfl⟩
    rw [← hg2]
    have hm2 : ∀ r ∈ g2, r ∈ rides := fun r hr => by rw [hg2] at hr; exact (List.mem_filter.mp hr).1
    simp -dsimp
    refine wp_drawn d3 (by omega) (by omega) fun v3 o5 d5 p1 p2 => ?_
    obtain ⟨q, rfl⟩ := Int.eq_ofNat_of_zero_le p1
    have hcut : cutD (cutD (g2.map rideD) (some (q : Int)) none) none (some 1) = ((g2.drop q).take 1).map rideD := by
      rw [cut_from, show (1 : Int) = ((1 : Nat) : Int) from rfl, cut_to, ← List.map_drop, ← List.map_take]
    have hlen1 : ((g2.drop q).take 1).length ≤ 1 := by simp; omega
    simp -dsimp [hcut]
    rw [if_pos (by simp at hlen1; omega)]
    simp -dsimp
    refine ⟨o5, fs ++ (g2.drop q).take 1, [_, _, _, _, _], d5, rfl, by rw [List.map_append, List.map_take, List.map_drop]; rfl, rfl, by simp [f1], fun r hr => ?_, by simp; omega⟩
    rcases List.mem_append.mp hr with hr | hr
    · exact f2 r hr
    · exact hm2 r (List.mem_of_mem_drop (List.mem_of_mem_take hr))
  · rintro env S ⟨o3, fs, tail, d3, ht, rfl, rfl, f1, f2, f3⟩
    obtain ⟨x5, x6, x7, x8, x9, rfl⟩ := len5 ht
    simp -dsimp
    simp at f3
    exact k o3 fs d3 ⟨f1, fun r hr => hg r (f2 r hr), by omega⟩ (by omega)
/-- a thing that is no tuple of rides -/
def OddR (d : D) : Prop := d = .tup [] ∨ d = .none ∨ (∃ xs, d = .lst xs) ∨ d = .int 5 ∨ d = .str ""
section
variable {S : Sto} {l : Nat} {ps : List (Str × Int)} {ls : List Leg} {d : D} {rs : List Ride}
theorem need_rides_bad (N : NetAt S l ps ls) (h : OddR d) : M_need_rides [.loc l, d] S = .exc ⟨"BadChain", []⟩ S := by
  apply exc_of_wp
  unfold M_need_rides
  apply wp_body
  unfold b_need_rides
  rcases h with rfl | rfl | ⟨xs, rfl⟩ | rfl | rfl <;> simp -dsimp [fIsi, tyOf]
theorem not_goes {n : Int} {dy : Int} (H : NetOk ps ls) (hn : n = 99 ∨ n = 9999) : ¬rGoes ls (dy, n) := fun h => by
  obtain ⟨lg, hl, e⟩ := h.has
  have := (H.legs lg hl).odd
  simp only at e
  rcases hn with rfl | rfl
  · exact this.1 e
  · exact this.2 e
/-- rides ahead of one that doesn't go -/
theorem need_rides_gone (H : NetOk ps ls) (N : NetAt S l ps ls) (hv : view S d = .tup (rs.map rideD ++ [.tup [.int 3, .int 99]])) (hi : iterD S d = some (.items (rs.map rideD ++ [.tup [.int 3, .int 99]]))) (ht : tyOf S d = some "tuple") (hr : ∀ r ∈ rs, rGoes ls r) : M_need_rides [.loc l, d] S = .exc ⟨"NoLeg", []⟩ S := by
  obtain ⟨c, g, h1, h2, h3⟩ := N.ex
  have hd : ∀ l ∈ ls, l.days.length ≤ 1000 := fun l hl => by have ok := H.legs l hl; have := days_len ok.dlt ok.dbd; omega
  have hz : rs.map rideD ++ [.tup [.int 3, .int 99]] = (rs ++ [((3 : Int), (99 : Int))]).map rideD := by rw [List.map_append]; rfl
  obtain ⟨qs, hqs⟩ : ∃ qs, qs = rs ++ [((3 : Int), (99 : Int))] := ⟨_, rfl⟩
  rw [hz, ← hqs] at hv hi
  apply exc_of_wp
  unfold M_need_rides
  apply wp_body
  unfold b_need_rides
  have hp : peqAll (qs.map rideD) [] = false := by rw [hqs]; cases rs <;> simp
  have hk : dok 60 (.tup (qs.map rideD)) = true := rideEnc.tup.dok 60 _ (by omega)
  simp -dsimp [fIsi, ht, hv, hk, hp, hi]
  refine wp_for (f := rideD) qs (fun pre rest => EnvI S [some (.loc l), some d] 1 (rest ≠ [])) rfl ⟨[none], rfl, rfl, rfl, by rw [hqs]; simp⟩ ?_ ?_
  · rintro pre r rest env S' hp ⟨t, htt, rfl, rfl, _⟩
    rw [hqs] at hp
    obtain ⟨x, rfl⟩ := len1 htt
    refine ⟨_, rfl, ?_⟩
    by_cases hr2 : rest = []
    · subst hr2
      have : r = (3, 99) := by
        have := congrArg List.getLast? hp
        simpa using this
      subst this
      have hnr := need_ride_two N.l hd (not_goes H (dy := 3) (.inl rfl))
      have hnr : M_Net_need_ride [.loc l, rideD (3, 99)] S' = _ := hnr
      simp -dsimp [h1, hnr]
    · have hm : r ∈ rs := by
        have : r ∈ (rs ++ [((3 : Int), (99 : Int))]).dropLast := by
          rw [← hp]
          rw [List.dropLast_append_of_ne_nil (by simp)]
          rw [List.dropLast_cons_of_ne_nil hr2]
          simp
        simpa using this
      simp -dsimp [h1, need_ride_eq N (hr r hm) (num_ok H (hr r hm).has)]
      exact ⟨[_], rfl, rfl, rfl, hr2⟩
  · rintro env S' ⟨t, htt, rfl, rfl, h⟩
    exact absurd rfl h
end
end DL

set_option Elab.async false
set_option linter.all false
set_option maxRecDepth 100000
set_option maxHeartbeats 4000000
/-! D7d: cuts told; what is refused, whole. -/
namespace DL
open PySem PySem.Spec PyProof.Rows L2 LamX
theorem rides_ne {ps : List (Str × Int)} {ls : List Leg} (H : NetOk ps ls) {n : Nat} (hn : 7 ≤ n) : ridesOf ls 0 n ≠ [] := by
  obtain ⟨l, hl⟩ := List.exists_mem_of_ne_nil ls H.ne
  have ok := H.legs l hl
  obtain ⟨d, hd⟩ := List.exists_mem_of_ne_nil l.days ok.dne
  have hb := ok.dbd d hd
  have : (d, l.num) ∈ ridesOf ls 0 n := (mem_ridesOf H.nd).mpr ⟨hb.1, by simp; omega, ⟨l, hl, rfl⟩, by
    rw [legOf_eq H.nd hl]
    simp only
    rw [Int.emod_eq_of_lt hb.1 (by omega)]
    exact hd⟩
  exact List.ne_nil_of_mem this
theorem hdK_bad : hdK "BadChain" = some (.str "BadChain") := by unfold hdK hdOf; rw [if_pos (by decide +kernel)]
theorem hdK_no : hdK "NoDuty" = some (.str "NoDuty") := by unfold hdK hdOf; rw [if_pos (by decide +kernel)]
theorem hdK_leg : hdK "NoLeg" = some (.str "NoLeg") := by unfold hdK hdOf; rw [if_pos (by decide +kernel)]
theorem ok_bad : PyData.strOk "BadChain" = true := by decide +kernel
theorem ok_nod : PyData.strOk "NoDuty" = true := by decide +kernel
theorem ok_leg : PyData.strOk "NoLeg" = true := by decide +kernel
/-- what a cut gives, as the law reads it -/
def KQ (ls : List Leg) (rs : List Ride) (S : Sto) (v : D) (S' : Sto) : Prop := (∃ G, S' = S ++ G) ∧ if cBad ls rs then v = .str "BadChain" else match cutA ls rs with
  | none => v = .str "NoDuty"
  | some rss => ∃ l ds, v = .loc l ∧ S'[l]? = some (.lst ds) ∧ RTups ds rss
section
variable {S : Sto} {l : Nat} {ps : List (Str × Int)} {ls : List Leg} {d : D} {rs : List Ride}
theorem kind_cut (H : NetOk ps ls) (hd : RTup d rs) (R : Row ls rs) : Res.wp (kindM hdK (M_cut [netD ps ls, d] S)) (KQ ls rs S) NoE := by
  refine wp_kindM (wp_mono (cut_wp H hd R) ?_ ?_)
  · rintro v S' ⟨l, ds, rss, G, rfl, rfl, h1, h2, h3, h4⟩
    exact ⟨⟨G, rfl⟩, by rw [if_neg h2, h3]; exact ⟨l, ds, rfl, h1, h4⟩⟩
  · rintro x S' ⟨G, rfl, ⟨h1, rfl⟩ | ⟨h1, h2, rfl⟩⟩
    · exact ⟨rfl, _, hdK_bad, ⟨G, rfl⟩, by rw [if_pos h1]⟩
    · exact ⟨rfl, _, hdK_no, ⟨G, rfl⟩, by rw [if_neg h1, h2]⟩
theorem sme_kind {S' S2 : Sto} {v r : D} (R : Row ls rs) (h : KQ ls rs S v S') (h2 : CutL ls rs S' r S2) : Sme S2 12 v r := by
  obtain ⟨_, h⟩ := h
  obtain ⟨⟨G, rfl⟩, h2⟩ := h2
  split at h
  · rename_i hb
    rw [if_pos hb] at h2
    subst h h2
    exact sme_str ok_bad
  · rename_i hb
    rw [if_neg hb] at h2
    split at h
    · rename_i hc
      rw [hc] at h2
      simp only at h2
      subst h h2
      exact sme_str ok_nod
    · rename_i rss hc
      rw [hc] at h2
      obtain ⟨l, ds, rfl, h3, h4⟩ := h
      obtain ⟨l2, es, rfl, h6, h5⟩ := h2
      have hr := cutA_rows (n := rs.length) (Nat.le_refl _) (fun _ => R) hc
      have hl := cutA_len (n := rs.length) (Nat.le_refl _) hc
      have := R.len
      exact sme_cut ((LV.loc h3).app G) (.loc h6) h4 h5 (fun x hx => by have := (hr x hx).len; omega) (by omega)
theorem judged_exc (H : NetOk ps ls) {X : XV} (h : ∀ S l, NetAt S l ps ls → M_need_rides [.loc l, d] S = .exc X S) : M_judged_duty [netD ps ls, d] S = .exc X (S ++ netO S.length ps ls) := by
  apply exc_of_wp
  unfold M_judged_duty
  apply wp_body
  unfold b_judged_duty
  simp -dsimp [init_eq H, h _ _ (netAt_new (S := S))]
theorem cut_exc (H : NetOk ps ls) {X : XV} (h : ∀ S l, NetAt S l ps ls → M_need_rides [.loc l, d] S = .exc X S) : M_cut [netD ps ls, d] S = .exc X (S ++ netO S.length ps ls) := by
  apply exc_of_wp
  unfold M_cut
  apply wp_body
  unfold b_cut
  simp -dsimp [init_eq H, h _ _ (netAt_new (S := S))]
theorem rested_exc1 (H : NetOk ps ls) {X : XV} {e : D} (h : ∀ S l, NetAt S l ps ls → M_need_rides [.loc l, d] S = .exc X S) : M_rested [netD ps ls, .lst [d, e]] S = .exc X (S ++ netO S.length ps ls) := by
  apply exc_of_wp
  unfold M_rested
  apply wp_body
  unfold b_rested
  simp -dsimp [init_eq H, loopI, h _ _ (netAt_new (S := S))]
theorem rested_exc2 (H : NetOk ps ls) {X : XV} {e : D} (h1 : ∀ S l, NetAt S l ps ls → M_need_rides [.loc l, d] S = .ok .none S) (h : ∀ S l, NetAt S l ps ls → M_need_rides [.loc l, e] S = .exc X S) : M_rested [netD ps ls, .lst [d, e]] S = .exc X (S ++ netO S.length ps ls) := by
  apply exc_of_wp
  unfold M_rested
  apply wp_body
  unfold b_rested
  simp -dsimp [init_eq H, loopI, h1 _ _ (netAt_new (S := S)), h _ _ (netAt_new (S := S))]
end
end DL

set_option Elab.async false
set_option linter.all false
set_option maxRecDepth 100000
set_option maxHeartbeats 4000000
/-! D7: the law k07. -/
namespace DL
open PySem PySem.Spec PyProof.Rows L2 LamX
theorem wp_nxt {m : MS} {env : En} {S : Sto} {N B C : En → Sto → Prop} {R : D → Sto → Prop} {E : XV → Sto → Prop} (h : RS.wp (m env S) N (fun _ _ => False) NoE NoB NoB) : RS.wp (sNxt m env S) N R E B C := by
  unfold sNxt
  generalize m env S = r at h
  cases r with
  | next e S => rw [wpS_next] at h ⊢; exact h
  | ret d S => simp at h
  | exc x e S => simp at h
  | brk e S => simp at h
  | cont e S => simp at h
  | stuck => simp at h
theorem len16 {α : Type} {l : List α} (h : l.length = 16) : ∃ a b c d e f g i j k m n o p q r, l = [a, b, c, d, e, f, g, i, j, k, m, n, o, p, q, r] := by
  match l, h with
  | [a, b, c, d, e, f, g, i, j, k, m, n, o, p, q, r], _ => exact ⟨a, b, c, d, e, f, g, i, j, k, m, n, o, p, q, r, rfl⟩
theorem len12 {α : Type} {l : List α} (h : l.length = 12) : ∃ a b c d e f g i j k m n, l = [a, b, c, d, e, f, g, i, j, k, m, n] := by
  match l, h with
  | [a, b, c, d, e, f, g, i, j, k, m, n], _ => exact ⟨a, b, c, d, e, f, g, i, j, k, m, n, rfl⟩
/-- the state of the drawing, what stands ahead in the frame, n slots more -/
structure FrI (sc : List Int) (front : En) (n : Nat) (env : En) (S : Sto) : Prop where
  ex : ∃ o T tail, Dr sc o ∧ tail.length = n ∧ env = front ++ tail ∧ S = o :: T
/-- duties so far, at l behind the state -/
structure DtI (sc : List Int) (ls : List Leg) (front : En) (l n : Nat) (env : En) (S : Sto) : Prop where
  ex : ∃ o T ds dss tail, Dr sc o ∧ tail.length = 12 ∧ env = front ++ tail ∧ S = o :: T ∧ T[l]? = some (.lst ds) ∧ RTups ds dss ∧ (∀ r ∈ dss, Row ls r) ∧ ds.length = n
/-- one more -/
structure DaI (sc : List Int) (ls : List Leg) (env0 : En) (l n : Nat) (env : En) (S : Sto) : Prop where
  ex : ∃ o T ds dss d rs, Dr sc o ∧ env = env0 ∧ S = o :: T ∧ T[l]? = some (.lst (ds ++ [d])) ∧ RTups ds dss ∧ (∀ r ∈ dss, Row ls r) ∧ ds.length = n ∧ RTup d rs ∧ Row ls rs
/-- the duties that are looked at -/
structure DcI (sc : List Int) (ls : List Leg) (front back : En) (env : En) (S : Sto) : Prop where
  ex : ∃ o T v ds dss, Dr sc o ∧ env = front ++ [some v] ++ back ∧ S = o :: T ∧ LV (o :: T) v ds ∧ RTups ds dss ∧ (∀ r ∈ dss, Row ls r) ∧ ds.length ≤ 1000
theorem RTups.dok {ds : List D} {dss : List (List Ride)} (h : RTups ds dss) : DL.dok 60 (.lst ds) = true := by
  simp only [dok_lst60, List.all_eq_true]
  intro d hd
  obtain ⟨i, hi, e⟩ := List.getElem_of_mem hd
  obtain ⟨d', rs, e1, _, h1⟩ := h.at_ hi
  rw [List.getElem?_eq_getElem hi, e] at e1
  cases e1
  rcases h1 with rfl | rfl
  · exact rideEnc.tup.dok 59 rs (by omega)
  · exact rideEnc.tpn.dok 59 rs (by omega)
theorem not_dr {sc : List Int} {o : O} {ds : List D} {dss : List (List Ride)} (d : Dr sc o) (h : RTups ds dss) : o ≠ .lst ds := fun z => by
  obtain ⟨p, m, r, e, _⟩ := d.ex
  rw [e] at z
  unfold stD at z
  cases z
  cases h with
  | cons h1 _ => rcases h1 with h1 | h1 <;> cases h1
theorem LV.dr {sc : List Int} {o o' : O} {T : Sto} {v : D} {ds : List D} {dss : List (List Ride)} (h : LV (o :: T) v ds) (d : Dr sc o) (hr : RTups ds dss) : LV (o' :: T) v ds := by
  rcases h with h | ⟨l, rfl, e⟩
  · exact .inl h
  · cases l with
    | zero =>
      simp at e
      exact absurd e (not_dr d hr)
    | succ l => exact .inr ⟨l + 1, rfl, e⟩
theorem RTups.pick {ds : List D} {dss : List (List Ride)} (h : RTups ds dss) : ∀ is : List Nat, RTups (pickN is ds) (pickN is dss)
  | [] => .nil
  | i :: is => by
    unfold pickN
    rw [List.filterMap_cons, List.filterMap_cons]
    by_cases hi : i < ds.length
    · obtain ⟨d, rs, e1, e2, h1⟩ := h.at_ hi
      rw [e1, e2]
      exact .cons h1 (RTups.pick h is)
    · have hl := h.length
      rw [List.getElem?_eq_none (by omega), List.getElem?_eq_none (by omega)]
      exact RTups.pick h is
theorem mem_pick {α : Type} {is : List Nat} {xs : List α} {x : α} (h : x ∈ pickN is xs) : x ∈ xs := by
  obtain ⟨i, _, e⟩ := List.mem_filterMap.mp h
  exact List.mem_of_getElem? e
theorem cut_ok {S : Sto} {ps : List (Str × Int)} {ls : List Leg} {d : D} {rs : List Ride} {rss : List (List Ride)} (H : NetOk ps ls) (hd : RTup d rs) (R : Row ls rs) (h1 : ¬cBad ls rs) (h2 : cutA ls rs = some rss) :
    Res.wp (M_cut [netD ps ls, d] S) (fun v S' => ∃ l ds G, v = .loc l ∧ S' = S ++ G ∧ S'[l]? = some (.lst ds) ∧ RTups ds rss) NoE := by
  refine wp_mono (cut_wp H hd R) ?_ ?_
  · rintro v S' ⟨l, ds, rss', G, rfl, rfl, h3, _, h5, h6⟩
    rw [h2] at h5; cases h5
    exact ⟨l, ds, G, rfl, rfl, h3, h6⟩
  · rintro x S' ⟨G, rfl, ⟨h3, _⟩ | ⟨_, h4, _⟩⟩
    · exact h1 h3
    · rw [h2] at h4; cases h4
theorem gone_eq {d : D} {qs : List Ride} (h : RTup d qs) (hl : qs.length ≤ 1000) (S : Sto) : lv0 dAdd S d (.tup [.tup [.int 3, .int 99]]) = some (.tup (qs.map rideD ++ [.tup [.int 3, .int 99]])) := by
  have hz : qs.length + 1 ≤ 1000000 := by omega
  rcases h with rfl | rfl
  · simp [lv0, dAdd, hz]
  · cases qs with
    | nil => simp [lv0, dAdd]
    | cons a l => simp [lv0, dAdd]; simp at hz; omega
theorem law_holds (sc : List Int) : Res.wp (M_law [.ro (sc.map .int)] []) (fun v _ => v = .bool true) NoE := by
  unfold M_law
  apply wp_body
  unfold b_law
  simp -dsimp
  refine wp_start fun o1 d1 => ?_
  simp -dsimp [rngD_map]
  refine wp_for (f := fun i : Nat => D.int i) (List.range 4) (fun _ _ => FrI sc [some (.ro (sc.map .int)), some (.loc 0)] 16) (by rfl) ⟨o1, [], _, d1, rfl, rfl, rfl⟩ ?_ ?_
  · rintro pre i rest env S hp ⟨o2, T, tail, d2, ht, rfl, rfl⟩
    obtain ⟨x2, x3, x4, x5, x6, x7, x8, x9, x10, x11, x12, x13, x14, x15, x16, x17, rfl⟩ := len16 ht
    refine ⟨_, rfl, ?_⟩
    simp -dsimp
    refine wp_net d2 fun ps ls o3 j H d3 => ?_
    generalize T ++ [j] = T1
    have hll := H.len
    have nd := H.nd
    simp -dsimp
    refine wp_rides hll (fun l hl => by have ok := H.legs l hl; have := days_len ok.dlt ok.dbd; omega) (by omega) (by omega) (by omega) fun j1 => ?_
    have hrn : (min (60 : Int) 13 + 1 - 0).toNat = 14 := by decide
    rw [hrn]
    have rne := rides_ne H (n := 14) (by omega)
    have rgo : ∀ r ∈ ridesOf ls 0 14, rGoes ls r := fun r hr => by
      obtain ⟨a, b, c, e⟩ := (mem_ridesOf nd).mp hr
      exact ⟨a, by simp at b; omega, c, e⟩
    have rlen : (ridesOf ls 0 14).length ≤ 1000000 := by have := ridesOf_len ls 0 14; omega
    generalize ridesOf ls 0 14 = rides at rne rgo rlen
    rw [List.cons_append]
    generalize T1 ++ [j1] = T2
    simp -dsimp
    refine wp_drawn d3 (by omega) (by omega) fun v o4 d4 a1 a2 => ?_
    have hs : smallI (1 + v) = true := smallI_of (by omega)
    simp -dsimp [hs, rngD_map]
    refine wp_for (f := fun i : Nat => D.int i) (List.range (1 + v).toNat) (fun pre _ => DtI sc ls [some (.ro (sc.map .int)), some (.loc 0), some (.int i), some (netD ps ls), some (.lst (rides.map rideD)), some (.loc (T2.length + 1))] T2.length pre.length) (by simp) ⟨o4, _, [], [], [_, _, _, _, _, _, _, _, _, _, _, _], d4, rfl, rfl, rfl, by rw [get_at0]; rfl, .nil, nofun, rfl⟩ ?_ ?_
    · rintro pre2 i2 rest2 env S hp2 ⟨o5, T3, ds, dss, tail, d5, ht, rfl, rfl, hT, hds, hdr, hdl⟩
      obtain ⟨y6, y7, y8, y9, y10, y11, y12, y13, y14, y15, y16, y17, rfl⟩ := len12 ht
      obtain ⟨rfl, hk2⟩ := range_at hp2
      refine ⟨([some (.ro (sc.map .int)), some (.loc 0), some (.int i), some (netD ps ls), some (.lst (rides.map rideD)), some (.loc (T2.length + 1)), some (.int pre2.length), y7, y8, y9, y10, y11, y12, y13, y14, y15, y16, y17], o5 :: T3), rfl, ?_⟩
      simp -dsimp
      refine wp_drawn d5 (by omega) (by omega) fun v2 o6 d6 c1 c2 => ?_
      obtain ⟨dd, e2, gap, rfl⟩ := pick (xs := [.int 30, .int 30, .int 29, .int 0]) c1 (by simpa using c2) (fun d => ∃ c, d = .int c) (by
        intro d hd
        simp only [List.mem_cons, List.not_mem_nil, or_false] at hd
        rcases hd with rfl | rfl | rfl | rfl <;> exact ⟨_, rfl⟩)
      simp -dsimp [e2]
      refine wp_call (Q := fun v S' => ∃ o' rs, Dr sc o' ∧ Row ls rs ∧ rs.length ≤ 9 ∧ v = .tpn (rs.map rideD) ∧ S' = o' :: T3) (chain_wp H d6 rne rgo rlen fun o' rs d' R rl => ⟨o', rs, d', R, rl, rfl, rfl⟩) ?_
      rintro dr S5 ⟨o7, rs, d7, R, rl, hdr7, rfl⟩
      have hrt : RTup dr rs := .inr hdr7
      clear hdr7
      simp -dsimp [-wq_sExpr, -sExpr_at]
      refine wpS_mono (N := DaI sc ls [some (.ro (sc.map .int)), some (.loc 0), some (.int i), some (netD ps ls), some (.lst (rides.map rideD)), some (.loc (T2.length + 1)), some (.int pre2.length), some dr, y8, y9, y10, y11, y12, y13, y14, y15, y16, y17] T2.length pre2.length) (R := fun _ _ => False) (E := NoE) (B := NoB) (C := NoB) ?_ ?_ (fun _ _ z => z.elim) (fun _ _ z => z.elim) (fun _ _ z => z.elim) (fun _ _ z => z.elim)
      · have hds1 : ds.length < 1000000 := by omega
        have hT' : ∀ o : O, (o :: T3)[T2.length + 1]? = some (.lst ds) := fun o => hT
        have hlt : T2.length < T3.length := (List.getElem?_eq_some_iff.mp hT).1
        simp -dsimp [isLstB, hT']
        refine wp_drawn d7 (by omega) (by omega) fun v3 o8 d8 c3 c4 => ?_
        by_cases q : 0 < v3
        · simp -dsimp [q]
          refine wp_drawn d8 (by omega) (by omega) fun v4 o9 d9 c5 c6 => ?_
          obtain ⟨w, hw⟩ : ∃ w : Nat, 1 + v4 = (w : Int) := ⟨(1 + v4).toNat, by omega⟩
          obtain ⟨d', g1, g2⟩ := hrt.cut none (some (w : Int))
          rw [cut_to] at g2
          rw [← hrt.view0 (o9 :: T3)] at g1
          simp -dsimp [hw, g1, bAppend, hT', hds1]
          exact ⟨o9, _, ds, dss, d', rs.take w, d9, rfl, rfl, by rw [List.getElem?_set_self hlt], hds, hdr, hdl, g2, R.take (by omega)⟩
        · simp -dsimp [q, bAppend, hT', hds1]
          exact ⟨o8, _, ds, dss, dr, rs, d8, rfl, rfl, by rw [List.getElem?_set_self hlt], hds, hdr, hdl, hrt, R⟩
      · rintro e S ⟨o8, T4, ds, dss, d', rs', d8, rfl, rfl, hT, hds, hdr, hdl, hrt', R'⟩
        have e1 := judged_eq (S := o8 :: T4) H hrt' R'
        have e2 := law_word_eq (S := (o8 :: T4) ++ netO (o8 :: T4).length ps ls) H hrt' R'.ne R'.has R'.len
        rw [dw_ne] at e2
        rw [List.cons_append] at e1 e2
        have hix : ∀ U, fIx (o8 :: (T4 ++ U)) (.loc (T2.length + 1)) (.int pre2.length) = some d' := fun U => by
          rw [fIx_loc (show (o8 :: (T4 ++ U))[T2.length + 1]? = some (.lst (ds ++ [d'])) from get_app hT U), atI_nat (by simp; omega)]
          rw [List.getElem?_append_right (by omega)]
          simp [hdl]
        have hix0 := hix []
        rw [List.append_nil] at hix0
        have hixG := hix (netO (o8 :: T4).length ps ls)
        have hTG := get_app hT (netO (o8 :: T4).length ps ls)
        generalize T4 ++ netO (o8 :: T4).length ps ls = T5 at e1 e2 hixG hTG
        have sm : Sme (o8 :: T5) 12 (.str (dw ls rs')) (.str (dw ls rs')) := sme_str (dw_ok ls rs')
        unfold Sme at sm
        simp -dsimp [hix0, hixG, e1, e2, sm]
        refine wp_call (kind_cut H hrt R) ?_
        rintro kv S6 hkq
        obtain ⟨G5, hG5⟩ := hkq.1
        simp -dsimp
        refine wp_call (law_cut_wp H hrt R) ?_
        rintro due S7 hdue
        obtain ⟨G6, hG6⟩ := hdue.1
        have hal := sme_kind R hkq hdue
        unfold Sme at hal
        simp -dsimp [hal]
        refine ⟨o8, T5 ++ (G5 ++ G6), ds ++ [d'], dss ++ [rs'], [_, _, _, _, _, _, _, _, _, _, _, _], d8, rfl, rfl, by rw [hG6, hG5]; simp, get_app hTG _, hds.append (.cons hrt' .nil), fun x hx => ?_, by simp [hdl]⟩
        rcases List.mem_append.mp hx with hx | hx
        · exact hdr x hx
        · rw [List.mem_singleton.mp hx]; exact R'
    · rintro env S ⟨o5, T3, ds, dss, tail, d5, ht, rfl, rfl, hT, hds, hdr, hdl⟩
      obtain ⟨y6, y7, y8, y9, y10, y11, y12, y13, y14, y15, y16, y17, rfl⟩ := len12 ht
      rw [List.length_range] at hdl
      simp -dsimp
      refine wp_call (Q := fun v S' => ∃ o' rs, Dr sc o' ∧ Row ls rs ∧ rs.length ≤ 9 ∧ v = .tpn (rs.map rideD) ∧ S' = o' :: T3) (chain_wp H d5 rne rgo rlen fun o' rs d' R rl => ⟨o', rs, d', R, rl, rfl, rfl⟩) ?_
      rintro dr S5 ⟨o7, rs, d7, R, rl, hdr7, rfl⟩
      have hrt : RTup dr rs := .inr hdr7
      simp -dsimp [-wq_sIf, -sIf_at]
      refine wpS_mono (N := DcI sc ls [some (.ro (sc.map .int)), some (.loc 0), some (.int i), some (netD ps ls), some (.lst (rides.map rideD))] [y6, y7, some dr, y9, y10, y11, y12, y13, y14, y15, y16, y17]) (R := fun _ _ => False) (E := NoE) (B := NoB) (C := NoB) ?_ ?_ (fun _ _ z => z.elim) (fun _ _ z => z.elim) (fun _ _ z => z.elim) (fun _ _ z => z.elim)
      · simp -dsimp
        refine wp_call (kind_cut H hrt R) ?_
        rintro kv S6 ⟨⟨G5, rfl⟩, hkq⟩
        have hlv0 : LV (o7 :: (T3 ++ G5)) (.loc (T2.length + 1)) ds := .loc (show (o7 :: (T3 ++ G5))[T2.length + 1]? = _ from get_app hT G5)
        have hsame : DcI sc ls [some (.ro (sc.map .int)), some (.loc 0), some (.int i), some (netD ps ls), some (.lst (rides.map rideD))] [y6, y7, some dr, y9, y10, y11, y12, y13, y14, y15, y16, y17] [some (.ro (sc.map .int)), some (.loc 0), some (.int i), some (netD ps ls), some (.lst (rides.map rideD)), some (.loc (T2.length + 1)), y6, y7, some dr, y9, y10, y11, y12, y13, y14, y15, y16, y17] (o7 :: (T3 ++ G5)) := ⟨o7, _, _, ds, dss, d7, rfl, rfl, hlv0, hds, hdr, by omega⟩
        split at hkq
        · subst hkq
          simp -dsimp [dIn, ok_bad, ok_nod]
          exact hsame
        · rename_i hb
          split at hkq
          · subst hkq
            simp -dsimp [dIn, ok_bad, ok_nod]
            exact hsame
          · rename_i rss hc
            obtain ⟨l1, ds1, rfl, h3, h4⟩ := hkq
            have hv1 : view (o7 :: (T3 ++ G5)) (.loc l1) = .lst ds1 := (LV.loc h3).view
            have hni : fNotIn (o7 :: (T3 ++ G5)) (.loc l1) (.tup [.str "BadChain", .str "NoDuty"]) = some (.bool true) := by
              have h3' : (o7 :: (T3 ++ G5))[l1]? = some (.lst ds1) := h3
              have hdk := h4.dok
              have h59 : ∀ x ∈ ds1, dok 59 x = true := by simpa only [dok_lst60, List.all_eq_true] using hdk
              simp [dIn, dok, h3', ok_bad, ok_nod]
              exact h59
            simp -dsimp [-fNotIn_at, hni]
            refine wp_call (cut_ok H hrt R hb hc) ?_
            rintro c2 S7 ⟨l2, ds2, G7, rfl, rfl, h5, h6⟩
            simp -dsimp
            unfold eStep2
            simp -dsimp
            refine wp_call (cut_ok H hrt R hb hc) ?_
            rintro c3 S8 ⟨l3, ds3, G8, rfl, rfl, h7, h8⟩
            have hlv2 := (LV.loc h5).app G8
            have hlv5 := (hlv0.app G7).app G8
            simp only [List.cons_append, List.append_assoc] at h7 hlv2 hlv5 ⊢
            simp -dsimp [h7]
            obtain ⟨T9, hT9⟩ : ∃ T9, T9 = T3 ++ (G5 ++ (G7 ++ G8)) := ⟨_, rfl⟩
            rw [← hT9] at hlv2 hlv5 ⊢
            refine wp_drawn d7 (by omega) (by omega) fun v4 o9 d9 p1 p2 => ?_
            have hrr := cutA_rows (n := rs.length) (Nat.le_refl _) (fun _ => R) hc
            have hrl := cutA_len (n := rs.length) (Nat.le_refl _) hc
            obtain ⟨x9, e9, ds9, dss9, q1, q2, q3, q4⟩ := pick (xs := [.loc (T2.length + 1), .loc l2, .lst (pickN (twos ds3.length) ds3)]) p1 (by simpa using p2) (fun d => ∃ ds dss, LV (o9 :: T9) d ds ∧ RTups ds dss ∧ (∀ r ∈ dss, Row ls r) ∧ ds.length ≤ 1000) (by
              intro d hd
              simp only [List.mem_cons, List.not_mem_nil, or_false] at hd
              rcases hd with rfl | rfl | rfl
              · exact ⟨ds, dss, hlv5.dr d7 hds, hds, hdr, by omega⟩
              · exact ⟨ds2, rss, hlv2.dr d7 h6, h6, hrr, by rw [h6.length]; omega⟩
              · exact ⟨_, _, .lst, h8.pick _, fun r hr => hrr r (mem_pick hr), by have := twos_len ds3; rw [h8.length] at this ⊢; omega⟩)
            simp -dsimp [e9]
            exact ⟨o9, T9, x9, ds9, dss9, d9, rfl, rfl, q1, q2, q3, q4⟩
      · rintro e S ⟨o8, T4, v, ds, dss, d8, rfl, rfl, hlv, hds, hdr, hdl⟩
        subst hdr7
        have e1 := rested_eq H hlv hds hdr
        have e2 := law_rested_eq H (hlv.app (netO (o8 :: T4).length ps ls)) hds hdr (by omega)
        rw [List.cons_append] at e1 e2
        generalize T4 ++ netO (o8 :: T4).length ps ls = T5 at e1 e2
        have sm : Sme (o8 :: T5) 12 (restD (restedOf ls 0 none dss)) (restD (restedOf ls 0 none dss)) := sme_rest fun q hq => rested_ok hq
        unfold Sme at sm
        have e3 := rested_eq (S := o8 :: T5) H (LV.lst (xs := [])) .nil nofun
        have e3 : M_rested [netD ps ls, .lst []] (o8 :: T5) = .ok .none (o8 :: (T5 ++ netO (o8 :: T5).length ps ls)) := e3
        generalize T5 ++ netO (o8 :: T5).length ps ls = T6 at e3
        have hli : ∀ S', fList S' [.tpn (rs.map rideD)] = some (.lst (rs.map rideD)) := fun _ => rfl
        simp -dsimp [e1, e2, sm, e3, hli, show isN .none = true from rfl]
        refine wp_drawn d8 (by omega) (by omega) fun v5 o9 d9 p1 p2 => ?_
        obtain ⟨odd, e9, hodd⟩ := pick (xs := [.tup [], .none, .lst (rs.map rideD), .int 5, .str ""]) p1 (by simpa using p2) OddR (by
          intro d hd
          simp only [List.mem_cons, List.not_mem_nil, or_false] at hd
          rcases hd with rfl | rfl | rfl | rfl | rfl
          · exact .inl rfl
          · exact .inr (.inl rfl)
          · exact .inr (.inr (.inl ⟨_, rfl⟩))
          · exact .inr (.inr (.inr (.inl rfl)))
          · exact .inr (.inr (.inr (.inr rfl))))
        simp -dsimp [e9]
        unfold sGrd
        rw [if_pos (by rfl)]
        unfold kT_law_0
        simp -dsimp
        refine wp_nxt ?_
        simp -dsimp
        refine wp_drawn d9 (by omega) (by omega) fun v6 o10 d10 p3 p4 => ?_
        obtain ⟨w, rfl⟩ := Int.eq_ofNat_of_zero_le p3
        obtain ⟨d', g1, g2⟩ := hrt.cut none (some (w : Int))
        rw [cut_to] at g2
        have hgo := gone_eq g2 (by simp; omega)
        obtain ⟨gone, hgone⟩ : ∃ g, g = D.tup ((rs.take w).map rideD ++ [.tup [.int 3, .int 99]]) := ⟨_, rfl⟩
        rw [← hgone] at hgo
        simp -dsimp [g1, -lv0_at, hgo]
        have b1 : ∀ S l, NetAt S l ps ls → M_need_rides [.loc l, odd] S = .exc ⟨"BadChain", []⟩ S := fun S l N => need_rides_bad N hodd
        have b2 : ∀ S l, NetAt S l ps ls → M_need_rides [.loc l, gone] S = .exc ⟨"NoLeg", []⟩ S := fun S l N => by
          rw [hgone]
          exact need_rides_gone H N rfl rfl rfl fun r hr => R.go r (List.mem_of_mem_take hr)
        have b3 : ∀ S l, NetAt S l ps ls → M_need_rides [.loc l, .tpn (rs.map rideD)] S = .ok .none S := fun S l N => need_rides_eq H N hrt R
        have m1 := fun S => judged_exc (S := S) H b1
        have m2 := fun S => cut_exc (S := S) H b1
        have m3 := fun S => rested_exc2 (S := S) H b3 b1
        have m4 := fun S => judged_exc (S := S) H b2
        have m5 := fun S => cut_exc (S := S) H b2
        have m6 := fun S => rested_exc1 (S := S) (e := odd) H b2
        have kb : ∀ S, kindM hdK (.exc ⟨"BadChain", []⟩ S) = .ok (.str "BadChain") S := fun S => by simp [kindM, hdK_bad]
        have kl : ∀ S, kindM hdK (.exc ⟨"NoLeg", []⟩ S) = .ok (.str "NoLeg") S := fun S => by simp [kindM, hdK_leg]
        have main : ∃ U, eKinds hdK [10, 12] kMs_law_0 [some (.ro (sc.map .int)), some (.loc 0), some (.int i), some (netD ps ls), some (.lst (rides.map rideD)), some v, y6, y7, some (.tpn (rs.map rideD)), some odd, none, some gone, y12, y13, y14, y15, y16, y17] (o10 :: T6) = .ok (.lst [.str "BadChain", .str "BadChain", .str "BadChain", .str "NoLeg", .str "NoLeg", .str "NoLeg"]) (o10 :: (T6 ++ U)) := by
          simp [eKinds, kindsI, kMs_law_0, wipeE, m1, m2, m3, m4, m5, m6, kb, kl]
        obtain ⟨U, e⟩ := main
        simp -dsimp [sFgt, wipeE, e, ok_bad, ok_leg, kR_law_0]
        exact ⟨o10, _, [_, _, _, _, _, _, _, _, _, _, _, _, _, _, _, _], d10, rfl, rfl, rfl⟩
  · rintro env S ⟨o2, T, tail, d2, ht, rfl, rfl⟩
    simp -dsimp
end DL


set_option Elab.async false
set_option linter.all false
set_option maxRecDepth 100000
namespace DL
open PySem PySem.Spec PyProof.Rows L2 LamX
theorem ok_of_wp {α : Type} {r : Res α} {v : α} (h : Res.wp r (fun a _ => a = v) NoE) : ∃ S, r = .ok v S := by
  cases r with
  | ok a S => rw [wp_ok] at h; exact ⟨S, by rw [h]⟩
  | exc e S => simp at h
  | stuck => simp at h
end DL
open DL in
theorem PySem.Challenge.cw_airhouse_k07_duties_holds : PySem.Challenge.rw_airhouse_k07_duties.Holds := by
  exact row_of fun ns _ _ => ok_of_wp (law_holds ns)

