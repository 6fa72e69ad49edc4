import PyProof.Rows.All
import Wide.All
import OpenK.AllK
import Wide.FinOn
import HandS.ForMost
import HandS.Exc
import HandS.TryOnly
import HandS.ExcOwn
import HandS.WordsExc
import HandS.IsInst
import HandS.Conv
import HandS.Defaults
import HandS.Codes
import HandS.Flow
import HandS.Walk
import HandS.Deep
import HandS.TupAny
import HandS.TupMul
import HandS.Wide
import KE.KExcIs
import KE.KExcSuper
import HandS.Lambda
import HandS.ExcInit
import HandS.ExcField
import PyProof.ReprRoads
import KE.DataFind
import HandS.HeadEnd
import HandS.HeadHook4
import HandS.HeadWalk
import HandS.Head2
import HandS.EndTab
import HandS.Words
import HandS.Head0
import HandS.Head1
import HandS.HeadHook1
import HandS.HeadHook2
import HandS.HeadHook3
import PySem.Challenge.RW_staytrue_k61_whole_least_plain_rules
set_option Elab.async false
set_option linter.all false
set_option maxRecDepth 99999
set_option maxHeartbeats 3900000
/-! The data layer: what a program does, told by plain data. -/
namespace Dl
open PySem
open PySem.Spec
open PyProof.Rows
open L2

/-- plain data -/
inductive D where
  | non | bl (b : Bool) | int (i : Int) | str (x : Str)
  | tup (xs : List D) | lst (xs : List D) | dct (xs : List (D × D))
  | ob (C : Str) (fs : List (Str × D))
  | pen | cl (x : Str) | ty (n : String) | fn (a : Addr)
  | er (C : Str) (fs : List (Str × D))
  deriving Inhabited

/-- the ground: the written part, the module's names, where the pen and its cells stand -/
structure Gr where
  K : PySem.W.Frag
  mg : Str → Option Value
  p : Addr
  c : Addr
  ns : List Int
  cls : List (Str × List Str) := []
  exs : List (Str × List Str) := []
  fld : List (Str × Str) := []
  tabs : List (Addr × Str) := []
/-- a caught exception's object -/
def erO (a Ca dx : Addr) : HO := .ext fun h => ∃ (vs : Array Value) (sl : Array (Option Value)), h.get? a = some ({ cls := .ref Ca, dict := some dx, data := .fields vs, slots := sl } : Obj)

/-- C is a known own class, it stands at Ca -/
def KnC (g : Gr) (C : Str) (Ca : Addr) : Prop := g.mg C = some (.ref Ca) ∧ (g.cls.lookup C).isSome = true
def KnE (g : Gr) (C : Str) (Ca : Addr) : Prop := g.mg C = some (.ref Ca) ∧ (g.exs.lookup C).isSome = true
mutual
/-- a value stands for data, over the objects of F -/
def Rep (g : Gr) (F : Hp) : D → V → Prop
  | .non, v => v = .non
  | .bl b, v => v = .bl b
  | .int i, v => v = .int i
  | .str x, v => v = .str x
  | .tup ds, v => ∃ a vs, v = .ref a ∧ SqT g.K F a vs ∧ Reps g F ds vs
  | .lst ds, v => ∃ a vs, v = .ref a ∧ F a = some (.lst vs) ∧ Reps g F ds vs
  | .dct _, _ => False
  | .ob C fs, v => ∃ a Ca dx gs, v = .ref a ∧ KnC g C Ca ∧ F a = some (.ins Ca dx gs) ∧ RepF g F fs gs
  | .pen, v => v = .ref g.p
  | .cl x, v => ∃ a, v = .ref a ∧ g.mg x = some (.ref a)
  | .ty n, v => v = .ty n
  | .fn a, v => v = .ref a
  | .er C fs, v => ∃ a Ca dx gs, v = .ref a ∧ KnE g C Ca ∧ F a = some (erO a Ca dx) ∧ F dx = some (.xd gs) ∧ RepF g F fs gs
def Reps (g : Gr) (F : Hp) : List D → List V → Prop
  | [], vs => vs = []
  | d :: ds, vs => ∃ v r, vs = v :: r ∧ Rep g F d v ∧ Reps g F ds r
def RepF (g : Gr) (F : Hp) : List (Str × D) → List (Str × V) → Prop
  | [], gs => gs = []
  | (x, d) :: fs, gs => ∃ v r, gs = (x, v) :: r ∧ Rep g F d v ∧ RepF g F fs r
end

/-- all of F stands in F' -/
def Sub (F F' : Hp) : Prop := ∀ a o, F a = some o → F' a = some o
theorem Sub.refl (F : Hp) : Sub F F := fun _ _ h => h
theorem Sub.trans {F G H : Hp} (a : Sub F G) (b : Sub G H) : Sub F H := fun x o h => b x o (a x o h)
theorem Sub.new {F : Hp} {p : Addr} {o : HO} (h : F p = none) : Sub F (upd F p o) := fun a u e => by
  rw [upd_ne (ne_of_none e h)]; exact e
theorem Sub.rd {F F' : Hp} {a : Addr} {u : HO} (s : Sub F F') (h : Rd F a u) : Rd F' a u := by
  rcases h with h | ⟨o, h⟩
  · exact .inl (s _ _ h)
  · exact .inr ⟨o, s _ _ h⟩
theorem Sub.sqT {K : PySem.W.Frag} {F F' : Hp} {a : Addr} {xs : List V} (s : Sub F F') (h : SqT K F a xs) : SqT K F' a xs := by
  rcases h with h | h
  · exact .inl (s.rd h)
  · exact .inr h
theorem Sub.sqL {K : PySem.W.Frag} {F F' : Hp} {a : Addr} {xs : List V} (s : Sub F F') (h : SqL K F a xs) : SqL K F' a xs := by
  rcases h with h | h
  · exact .inl (s.rd h)
  · exact .inr h
mutual
theorem Rep.mono {g : Gr} {F F' : Hp} (s : Sub F F') : ∀ {d : D} {v : V}, Rep g F d v → Rep g F' d v
  | .non, _, h => h
  | .bl _, _, h => h
  | .int _, _, h => h
  | .str _, _, h => h
  | .tup _, _, h => by
    simp only [Rep] at h ⊢
    obtain ⟨a, vs, e, q, r⟩ := h
    exact ⟨a, vs, e, s.sqT q, Reps.mono s r⟩
  | .lst _, _, h => by
    simp only [Rep] at h ⊢
    obtain ⟨a, vs, e, q, r⟩ := h
    exact ⟨a, vs, e, s _ _ q, Reps.mono s r⟩
  | .dct _, _, h => by simp only [Rep] at h
  | .ob _ _, _, h => by
    simp only [Rep] at h ⊢
    obtain ⟨a, Ca, dx, gs, e, m, q, r⟩ := h
    exact ⟨a, Ca, dx, gs, e, m, s _ _ q, RepF.mono s r⟩
  | .pen, _, h => h
  | .cl _, _, h => h
  | .ty _, _, h => h
  | .fn _, _, h => h
  | .er _ _, _, h => by
    simp only [Rep] at h ⊢
    obtain ⟨a, Ca, dx, gs, e, m, q1, q2, r⟩ := h
    exact ⟨a, Ca, dx, gs, e, m, s _ _ q1, s _ _ q2, RepF.mono s r⟩
theorem Reps.mono {g : Gr} {F F' : Hp} (s : Sub F F') : ∀ {ds : List D} {vs : List V}, Reps g F ds vs → Reps g F' ds vs
  | [], _, h => h
  | _ :: _, _, h => by
    simp only [Reps] at h ⊢
    obtain ⟨v, r, e, q, t⟩ := h
    exact ⟨v, r, e, q.mono s, Reps.mono s t⟩
theorem RepF.mono {g : Gr} {F F' : Hp} (s : Sub F F') : ∀ {fs : List (Str × D)} {gs : List (Str × V)}, RepF g F fs gs → RepF g F' fs gs
  | [], _, h => h
  | _ :: _, _, h => by
    simp only [RepF] at h ⊢
    obtain ⟨v, r, e, q, t⟩ := h
    exact ⟨v, r, e, q.mono s, RepF.mono s t⟩
end
end Dl

set_option maxHeartbeats 3900000
namespace Dl
open PySem
open PySem.Spec
open PyProof.Rows
open L2

/-- types of values: built-in ones, own ones -/
inductive Ty where
  | b (n : String) | o (C : Str)
def tyD : D → Option Ty
  | .non => some (.b "NoneType")
  | .bl _ => some (.b "bool")
  | .int _ => some (.b "int")
  | .str _ => some (.b "str")
  | .tup _ => some (.b "tuple")
  | .lst _ => some (.b "list")
  | .dct _ => some (.b "dict")
  | .ob C _ => some (.o C)
  | .er C _ => some (.o C)
  | _ => none
def TyV (g : Gr) : Ty → Value → Prop
  | .b n, u => u = .type n
  | .o C, u => ∃ a, g.mg C = some (.ref a) ∧ u = .ref a
def knownB : List String := ["NoneType", "bool", "int", "str", "tuple", "list", "dict"]
def supers (g : Gr) (C : Str) : Option (List Str) := match g.cls.lookup C with
  | some l => some l
  | none => g.exs.lookup C
/-- isinstance by types -/
def isaT (g : Gr) : Ty → Ty → Option Bool
  | .b a, .b c => if a ∈ knownB ∧ c ∈ knownB then some (a == c || (a == "bool" && c == "int")) else none
  | .b a, .o C => if a ∈ knownB ∧ (supers g C).isSome = true then some false else none
  | .o C, .b c => if c ∈ knownB ∧ (supers g C).isSome = true then some false else none
  | .o C, .o C' => if (supers g C').isSome = true then (supers g C).map (·.contains C') else none
/-- what the written part says of an own class whose instances are told as objects -/
structure InsF (K : PySem.W.Frag) (C : Addr) : Prop where
  cl : Cls K C
  ha : PySem.W.findIn K (.ref C) "__class__" = some (some (.builtin "object.__class__"))
  hn : PySem.W.specialIn K (.builtin "object.__class__") "__get__" = some (some (.builtin "getset_descriptor.__get__"))
  htk : PySem.W.takesIn K (.builtin "object.__class__") = some true
  hm : PySem.W.mroIn K C (.type "object") = some true
/-- .. of an own exception class -/
structure ErF (K : PySem.W.Frag) (C : Addr) : Prop where
  cl : (PySem.W.clsIn K C).isSome = true
  ga : PySem.W.findIn K (.ref C) "__getattribute__" = some (some (.builtin "BaseException.__getattribute__"))
  gt : PySem.W.findIn K (.ref C) "__getattr__" = some none
  hd : PySem.W.hasDictIn K C = true
  sub : PySem.W.subIn K (.ref C) (.type "BaseException") = some true
  ha : PySem.W.findIn K (.ref C) "__class__" = some (some (.builtin "object.__class__"))
  hn : PySem.W.specialIn K (.builtin "object.__class__") "__get__" = some (some (.builtin "getset_descriptor.__get__"))
  htk : PySem.W.takesIn K (.builtin "object.__class__") = some true
  hm : PySem.W.mroIn K C (.type "object") = some true
/-- .. and of the ground -/
structure GrF (g : Gr) : Prop where
  exm : ∀ C T ca ta l, g.exs.lookup C = some l → l.contains T = true → g.mg C = some (.ref ca) → g.mg T = some (.ref ta) → PySem.W.exmOne g.K (.ref ca) (.ref ta) = some true
  noat : ∀ C f a, g.fld.contains (C, f) = true → g.mg C = some (.ref a) → PySem.W.findIn g.K (.ref a) f = some none
  ers : ∀ C a, (g.exs.lookup C).isSome = true → g.mg C = some (.ref a) → ErF g.K a
  isa : ∀ t c b tv cv, isaT g t c = some b → TyV g t tv → TyV g c cv → PySem.W.kitOne g.K tv cv = some b
  ins : ∀ C a, (g.cls.lookup C).isSome = true → g.mg C = some (.ref a) → InsF g.K a
/-- a context over the ground -/
structure On (X : Cx) (g : Gr) : Prop where
  K : X.K = g.K
  mg : X.mg = g.mg
  calm : X.calm = true
  hu : X.A.units + 128 < cLine
  gr : GrF g
/-- a slot: nothing known; frozen data; a list of the def's own -/
inductive Sl where
  | un | fz (d : D) | ol (ds : List D)
  deriving Inhabited
/-- a def's state: its slots, how many draws are left -/
structure DS where
  e : List Sl
  n : Nat
def DS.set (st : DS) (i : Nat) (s : Sl) : DS := ⟨st.e.set i s, st.n⟩

/-- the pen: two numbers behind its cells, n draws left -/
def PenAt (g : Gr) (H : Hp) (n : Nat) : Prop :=
  ∃ spot rest : Int, H g.p = some (.lst [.ref g.c, .int spot, .int rest]) ∧ 0 ≤ spot ∧ 0 ≤ rest ∧ spot + (n : Int) ≤ 33554432
def Cells (g : Gr) (H : Hp) : Prop := SqL g.K H g.c (g.ns.map V.int) ∧ g.c ≠ g.p ∧ g.ns.length ≤ 63
/-- nothing, or a table -/
def Nw (H : Hp) (a : Addr) : Prop := ∀ o, H a = some o → ∃ ps, o = HO.tbl ps
theorem Nw.of {H : Hp} {a : Addr} (h : H a = none) : Nw H a := fun o e => by rw [h] at e; cases e
theorem Nw.lst {H : Hp} {a : Addr} {vs : List V} {p : Prop} (n : Nw H a) (e : H a = some (.lst vs)) : p := by
  obtain ⟨ps, z⟩ := n _ e
  cases z
/-- what holds at each moment: F is frozen -/
structure Wd (g : Gr) (F H : Hp) (n : Nat) : Prop where
  sub : Sub F H
  ntb : ∀ a ps, F a ≠ some (.tbl ps)
  npen : F g.p = none
  pen : PenAt g H n
  cel : Cells g H
  tab : LamX.Tabs g.tabs H
/-- all but tables and the pen stays -/
def Keep (g : Gr) (H H' : Hp) : Prop := ∀ b o, H b = some o → (∀ ps, o ≠ .tbl ps) → b ≠ g.p → H' b = some o
theorem Keep.refl (g : Gr) (H : Hp) : Keep g H H := fun _ _ h _ _ => h
theorem Keep.trans {g : Gr} {H H1 H2 : Hp} (a : Keep g H H1) (b : Keep g H1 H2) : Keep g H H2 := fun x o h n q => b x o (a x o h n q) n q
/-- where a def's body stands: the heap and the frozen part at its entry -/
structure En where
  H : Hp
  F : Hp
  gh : List (Addr × List V) := []
structure Rs (g : Gr) (en : En) (F : Hp) (σ : L2.St) (H : Hp) (st : DS) : Prop where
  w : Wd g F H st.n
  es : Sub en.F F
  cel0 : Cells g en.H
  old : Keep g en.H H
  dom : ∀ a, Nw H a → Nw en.H a
  new : ∀ a o, F a = some o → en.F a = some o ∨ Nw en.H a
  len : st.e.length = σ.length
  fz : ∀ (i : Nat) (d : D), st.e[i]? = some (.fz d) → ∃ v, σ[i]? = some (some v) ∧ Rep g F d v
  ol : ∀ (i : Nat) (ds : List D), st.e[i]? = some (.ol ds) → ∃ l vs, σ[i]? = some (some (.ref l)) ∧ H l = some (.lst vs) ∧ Reps g F ds vs ∧ F l = none ∧ Nw en.H l ∧ l ≠ g.p
  ap : ∀ (i j : Nat) (ds es : List D) (l : Addr), i ≠ j → st.e[i]? = some (.ol ds) → st.e[j]? = some (.ol es) → σ[i]? = some (some (.ref l)) → σ[j]? ≠ some (some (.ref l))
  gk : ∀ q ∈ en.gh, H q.1 = some (.lst q.2) ∧ F q.1 = none ∧ q.1 ≠ g.p ∧ ∀ (i : Nat) (ds : List D), st.e[i]? = some (.ol ds) → σ[i]? ≠ some (some (.ref q.1))

section
variable {g : Gr} {en : En} {F F' H H' : Hp} {σ : L2.St} {st : DS} {p : Addr} {o : HO}
theorem PenAt.ne {n : Nat} (h : PenAt g H n) (q : H p = none) : p ≠ g.p := by
  obtain ⟨_, _, e, _⟩ := h
  exact fun z => by rw [z, e] at q; cases q
theorem Cells.sub (h : Cells g H) (s : Sub H H') : Cells g H' := ⟨s.sqL h.1, h.2⟩
/-- a new object -/
theorem Rs.laid (h : Rs g en F σ H st) (q : H p = none) (ho : ∀ ps, o ≠ .tbl ps) : Rs g en (upd F p o) σ (upd H p o) st := by
  have hp := h.w.pen.ne q
  have sH : Sub H (upd H p o) := Sub.new q
  have qF : F p = none := by
    cases e : F p with
    | none => rfl
    | some u => rw [h.w.sub _ _ e] at q; cases q
  have sF : Sub F (upd F p o) := Sub.new qF
  refine ⟨⟨fun a u e => ?_, fun a ps e => ?_, ?_, ?_, h.w.cel.sub sH, h.w.tab.ext sH⟩, h.es.trans sF, h.cel0, fun b u e n m => sH _ _ (h.old b u e n m), fun a e => ?_, fun a u e => ?_, h.len, fun i d e => ?_, fun i ds e => ?_, h.ap, fun q hq => ?_⟩
  · by_cases z : a = p
    · subst z; rw [upd_same] at e ⊢; exact e
    · rw [upd_ne z] at e ⊢; exact h.w.sub _ _ e
  · by_cases z : a = p
    · subst z; rw [upd_same] at e; exact ho ps (Option.some.inj e)
    · rw [upd_ne z] at e; exact h.w.ntb _ _ e
  · rw [upd_ne hp.symm]; exact h.w.npen
  · obtain ⟨x, r, e, k⟩ := h.w.pen
    exact ⟨x, r, by rw [upd_ne hp.symm]; exact e, k⟩
  · by_cases z : a = p
    · subst z
      obtain ⟨ps, y⟩ := e o upd_same
      exact absurd y (ho ps)
    · exact h.dom _ fun u y => e u (by rw [upd_ne z]; exact y)
  · by_cases z : a = p
    · subst z; exact .inr (h.dom _ (.of q))
    · rw [upd_ne z] at e; exact h.new _ _ e
  · obtain ⟨v, e1, r⟩ := h.fz i d e
    exact ⟨v, e1, r.mono sF⟩
  · obtain ⟨l, vs, e1, e2, r, e3, e4, e5⟩ := h.ol i ds e
    have z : l ≠ p := ne_of_none e2 q
    exact ⟨l, vs, e1, by rw [upd_ne z]; exact e2, r.mono sF, by rw [upd_ne z]; exact e3, e4, e5⟩
  · obtain ⟨g1, g2, g3, g4⟩ := h.gk q hq
    have z : q.1 ≠ p := ne_of_none g1 (by assumption)
    exact ⟨by rw [upd_ne z]; exact g1, by rw [upd_ne z]; exact g2, g3, g4⟩

/-- only the pen turned -/
theorem Rs.frozen_le (h : Rs g en F σ H st) : Sub F H := h.w.sub
/-- behind a callee: what it kept, what it froze -/
theorem Rs.called {n : Nat} (h : Rs g en F σ H st) (w : Wd g F' H' n) (k : Keep g H H') (dm : ∀ a, Nw H' a → Nw H a) (s : Sub F F') (nw : ∀ a o, F' a = some o → F a = some o ∨ Nw H a) : Rs g en F' σ H' ⟨st.e, n⟩ := by
  refine ⟨w, h.es.trans s, h.cel0, h.old.trans k, fun a e => h.dom a (dm a e), fun a o e => ?_, h.len, fun i d e => ?_, fun i ds e => ?_, h.ap, fun q hq => ?_⟩
  · rcases nw a o e with z | z
    · exact h.new a o z
    · exact .inr (h.dom a z)
  · obtain ⟨v, e1, r⟩ := h.fz i d e
    exact ⟨v, e1, r.mono s⟩
  · obtain ⟨l, vs, e1, e2, r, e3, e4, e5⟩ := h.ol i ds e
    refine ⟨l, vs, e1, k _ _ e2 (fun ps z => by cases z) e5, r.mono s, ?_, e4, e5⟩
    cases q : F' l with
    | none => rfl
    | some u =>
      rcases nw l u q with z | z
      · rw [e3] at z; cases z
      · exact z.lst e2
  · obtain ⟨g1, g2, g3, g4⟩ := h.gk q hq
    refine ⟨k _ _ g1 (fun ps z => by cases z) g3, ?_, g3, g4⟩
    cases q5 : F' q.1 with
    | none => rfl
    | some u =>
      rcases nw q.1 u q5 with z | z
      · rw [g2] at z; cases z
      · exact z.lst g1
end
/-- an error: its class, its fields -/
abbrev X := Str × List (Str × D)
def RepX (g : Gr) (F H : Hp) (x : X) (cls : Value) (dd : Option Addr) : Prop :=
  ∃ (Ca dx : Addr) (gs : List (Str × V)), KnE g x.1 Ca ∧ cls = .ref Ca ∧ dd = some dx ∧ F dx = some (.xd gs) ∧ RepF g F x.2 gs
/-- expressions, tests, argument lists, statements on data -/
abbrev DE := DS → (D → DS → Prop) → (X → DS → Prop) → Prop
abbrev DT := DS → (Bool → DS → Prop) → (X → DS → Prop) → Prop
abbrev DA := DS → (List D → DS → Prop) → (X → DS → Prop) → Prop
structure DZ where
  nx : DS → Prop
  rt : D → DS → Prop
  bk : DS → Prop := fun _ => False
  ct : DS → Prop := fun _ => False
  ex : X → DS → Prop := fun _ _ => False
abbrev DB := DS → DZ → Prop

section
variable (g : Gr) (en : En) (W : WX)
/-- what follows an error -/
def XF (R : X → DS → Prop) (F : Hp) : Prop := ∀ (x : X) (st : DS) (cls : Value) (dd : Option Addr) (σ : L2.St) (F' H' : Hp), R x st → Sub F F' → Rs g en F' σ H' st → RepX g F' H' x cls dd → W cls dd σ H'
def le (t : DE) : TE := fun σ H Q => ∃ F st P R, Rs g en F σ H st ∧ t st P R ∧ (∀ d st' v F' H', P d st' → Sub F F' → Rs g en F' σ H' st' → Rep g F' d v → Q v H') ∧ XF g en W R F
def lt (t : DT) : TT := fun σ H Q => ∃ F st P R, Rs g en F σ H st ∧ t st P R ∧ (∀ b st' F' H', P b st' → Sub F F' → Rs g en F' σ H' st' → Q b H') ∧ XF g en W R F
def la (t : DA) : TA := fun σ H Q => ∃ F st P R, Rs g en F σ H st ∧ t st P R ∧ (∀ ds st' vs F' H', P ds st' → Sub F F' → Rs g en F' σ H' st' → Reps g F' ds vs → Q vs H') ∧ XF g en W R F
/-- what a statement's ends ask of what follows -/
structure LK (E : DZ) (D : Ends) (F : Hp) : Prop where
  nx : ∀ st σ F' H, E.nx st → Sub F F' → Rs g en F' σ H st → D.nx σ H
  bk : ∀ st σ F' H, E.bk st → Sub F F' → Rs g en F' σ H st → D.bk σ H
  ct : ∀ st σ F' H, E.ct st → Sub F F' → Rs g en F' σ H st → D.ct σ H
  rt : ∀ d st v σ F' H, E.rt d st → Sub F F' → Rs g en F' σ H st → Rep g F' d v → D.rt v H
  ex : XF g en W E.ex F
def ls (t : DB) : TS := fun D σ H => ∃ (F : Hp) (st : DS) (E : DZ), Rs g en F σ H st ∧ t st E ∧ LK g en W E D F
end
section
variable {g : Gr} {en : En} {W : WX}
theorem XF.sub {R : X → DS → Prop} {F F' : Hp} (h : XF g en W R F) (s : Sub F F') : XF g en W R F' := fun x st cls dd σ F2 H2 r s2 => h x st cls dd σ F2 H2 r (s.trans s2)
theorem LK.sub {E : DZ} {D : Ends} {F F' : Hp} (h : LK g en W E D F) (s : Sub F F') : LK g en W E D F' :=
  ⟨fun st σ G H p z => h.nx st σ G H p (s.trans z), fun st σ G H p z => h.bk st σ G H p (s.trans z), fun st σ G H p z => h.ct st σ G H p (s.trans z), fun d st v σ G H p z => h.rt d st v σ G H p (s.trans z), h.ex.sub s⟩
end
theorem _root_.L2.PE.weak {X : Cx} {e : Expr} {t t' : TE} (h : PE X e t) (w : ∀ σ H Q, t' σ H Q → t σ H Q) : PE X e t' := ⟨fun pins s σ H Q I q => h.run pins s σ H Q I (w σ H Q q)⟩
theorem _root_.L2.PT.weak {X : Cx} {e : Expr} {t t' : TT} (h : PT X e t) (w : ∀ σ H Q, t' σ H Q → t σ H Q) : PT X e t' := ⟨fun pins s σ H Q I q => h.run pins s σ H Q I (w σ H Q q)⟩
theorem _root_.L2.PA.weak {X : Cx} {e : List Expr} {t t' : TA} (h : PA X e t) (w : ∀ σ H Q, t' σ H Q → t σ H Q) : PA X e t' := ⟨fun pos pins s σ H Q I q => h.run pos pins s σ H Q I (w σ H Q q)⟩
theorem _root_.L2.PS.weak {X : Cx} {e : Stmt} {t t' : TS} (h : PS X e t) (w : ∀ D σ H, t' D σ H → t D σ H) : PS X e t' := ⟨fun pins s σ H D I q => h.run pins s σ H D I (w D σ H q)⟩
theorem _root_.L2.PSs.weak {X : Cx} {e : List Stmt} {t t' : TS} (h : PSs X e t) (w : ∀ D σ H, t' D σ H → t D σ H) : PSs X e t' := ⟨fun pins s σ H D I q => h.run pins s σ H D I (w D σ H q)⟩
end Dl

set_option maxHeartbeats 3900000
namespace Dl
open PySem
open PySem.Spec
open PyProof.Rows
open L2

/-! ### names, constants -/
def dC (d : D) : DE := fun st P _ => P d st
/-- a name: frozen data; a list of one's own is frozen from now on -/
def dVar (i : Nat) : DE := fun st P _ => match st.e[i]? with
  | some (.fz d) => P d st
  | some (.ol ds) => P (.lst ds) (st.set i (.fz (.lst ds)))
  | _ => False
section
variable {g : Gr} {en : En} {W : WX} {F F' H H' : Hp} {σ : L2.St} {st : DS}
theorem Rs.freeze {i : Nat} {ds : List D} (h : Rs g en F σ H st) (e : st.e[i]? = some (.ol ds)) :
    ∃ l vs, σ[i]? = some (some (.ref l)) ∧ Sub F (upd F l (.lst vs)) ∧ Rs g en (upd F l (.lst vs)) σ H (st.set i (.fz (.lst ds))) ∧ Rep g (upd F l (.lst vs)) (.lst ds) (.ref l) := by
  obtain ⟨l, vs, e1, e2, r, e3, e4, e5⟩ := h.ol i ds e
  have sF : Sub F (upd F l (.lst vs)) := Sub.new e3
  have rl : Rep g (upd F l (.lst vs)) (.lst ds) (.ref l) := by
    simp only [Rep]
    exact ⟨l, vs, rfl, upd_same, Reps.mono sF r⟩
  have hi : i < st.e.length := (List.getElem?_eq_some_iff.mp e).1
  refine ⟨l, vs, e1, sF, ⟨⟨fun a u q => ?_, fun a ps q => ?_, ?_, h.w.pen, h.w.cel, h.w.tab⟩, h.es.trans sF, h.cel0, h.old, h.dom, fun a o q => ?_, ?_, fun j d q => ?_, fun j es q => ?_, fun j k es fs m hjk q1 q2 q3 => ?_, fun q hq => ?_⟩, rl⟩
  · by_cases z : a = l
    · subst z; rw [upd_same] at q; rw [← q]; exact e2
    · rw [upd_ne z] at q; exact h.w.sub _ _ q
  · by_cases z : a = l
    · subst z; rw [upd_same] at q; cases q
    · rw [upd_ne z] at q; exact h.w.ntb _ _ q
  · rw [upd_ne (Ne.symm e5)]; exact h.w.npen
  · by_cases z : a = l
    · subst z; exact .inr e4
    · rw [upd_ne z] at q; exact h.new _ _ q
  · show (st.e.set i _).length = _
    rw [List.length_set]; exact h.len
  · have q' : (st.e.set i (.fz (.lst ds)))[j]? = some (.fz d) := q
    by_cases z : j = i
    · subst z
      rw [List.getElem?_set_self hi] at q'
      cases q'
      exact ⟨_, e1, rl⟩
    · rw [List.getElem?_set_ne (Ne.symm z)] at q'
      obtain ⟨v, p1, p2⟩ := h.fz j d q'
      exact ⟨v, p1, p2.mono sF⟩
  · have q' : (st.e.set i (.fz (.lst ds)))[j]? = some (.ol es) := q
    have z : j ≠ i := fun z => by
      subst z
      rw [List.getElem?_set_self hi] at q'
      cases q'
    rw [List.getElem?_set_ne (Ne.symm z)] at q'
    obtain ⟨l', vs', p1, p2, p3, p4, p5, p6⟩ := h.ol j es q'
    have nl : l' ≠ l := fun w => h.ap i j ds es l (Ne.symm z) e q' e1 (by rw [← w]; exact p1)
    exact ⟨l', vs', p1, p2, Reps.mono sF p3, by rw [upd_ne nl]; exact p4, p5, p6⟩
  · have q1' : (st.e.set i (.fz (.lst ds)))[j]? = some (.ol es) := q1
    have q2' : (st.e.set i (.fz (.lst ds)))[k]? = some (.ol fs) := q2
    have zj : j ≠ i := fun z => by
      subst z
      rw [List.getElem?_set_self hi] at q1'
      cases q1'
    have zk : k ≠ i := fun z => by
      subst z
      rw [List.getElem?_set_self hi] at q2'
      cases q2'
    rw [List.getElem?_set_ne (Ne.symm zj)] at q1'
    rw [List.getElem?_set_ne (Ne.symm zk)] at q2'
    exact h.ap j k es fs m hjk q1' q2' q3
  · obtain ⟨g1, g2, g3, g4⟩ := h.gk q hq
    have z : q.1 ≠ l := fun w => g4 i ds e (by rw [w]; exact e1)
    refine ⟨g1, by rw [upd_ne z]; exact g2, g3, fun j es q5 => ?_⟩
    have q5' : (st.e.set i (.fz (.lst ds)))[j]? = some (.ol es) := q5
    by_cases zj : j = i
    · subst zj
      rw [List.getElem?_set_self hi] at q5'
      cases q5'
    · rw [List.getElem?_set_ne (Ne.symm zj)] at q5'
      exact g4 j es q5'
theorem le_var (i : Nat) : ∀ σ H Q, le g en W (dVar i) σ H Q → tVar i σ H Q := by
  rintro σ H Q ⟨F, st, P, R, rs, t, kP, kR⟩
  unfold dVar at t
  cases e : st.e[i]? with
  | none => rw [e] at t; cases t
  | some s =>
    rw [e] at t
    cases s with
    | un => cases t
    | fz d =>
      obtain ⟨v, q, r⟩ := rs.fz i d e
      exact ⟨v, q, kP d st v F H t (Sub.refl _) rs r⟩
    | ol ds =>
      obtain ⟨l, vs, q, s, rs', r⟩ := rs.freeze e
      exact ⟨_, q, kP _ _ _ _ H t s rs' r⟩
theorem le_c {d : D} {v : V} (r : ∀ F, Rep g F d v) : ∀ σ H Q, le g en W (dC d) σ H Q → tC v σ H Q := by
  rintro σ H Q ⟨F, st, P, R, rs, t, kP, kR⟩
  exact kP d st v F H t (Sub.refl _) rs (r F)
end
section
variable {X : Cx} {g : Gr} {en : En} {W : WX} {a b c : Expr} {ta tb tc : DE} {pos : Pos}
theorem de_var (i : Nat) {x : Str} (hN : X.N[i]? = some x := by rfl) (hv : Vis X.env.scope x := by first | exact Or.inl rfl | exact Or.inr (Or.inl rfl) | exact Or.inr (Or.inr rfl)) (hd : (x == ("__debug__" : Str)) = false := by decide)
    (hcd : (x == ("__classdict__" : Str)) = false := by decide) : PE X (.Name x pos) (le g en W (dVar i)) := (pe_var hN hv hd hcd).weak (le_var i)
theorem de_int {i : Int} {j : Nat} : PE X (.Constant (.int i) j pos) (le g en W (dC (.int i))) := pe_int.weak (le_c fun F => by simp only [Rep])
theorem de_bl {b : Bool} {j : Nat} : PE X (.Constant (.bool b) j pos) (le g en W (dC (.bl b))) := pe_bl.weak (le_c fun F => by simp only [Rep])
theorem de_non {j : Nat} : PE X (.Constant .none j pos) (le g en W (dC .non)) := pe_non.weak (le_c fun F => by simp only [Rep])
theorem de_str {x : Str} {j : Nat} : PE X (.Constant (.str x) j pos) (le g en W (dC (.str x))) := pe_str.weak (le_c fun F => by simp only [Rep])
/-- a module's name that is an int, a text, an object -/
theorem de_gint {x : Str} {i : Int} (hm : ∃ t, X.mg x = some (.int i t)) (hg : Gl X x := by rfl) (hd : (x == ("__debug__" : Str)) = false := by decide) : PE X (.Name x pos) (le g en W (dC (.int i))) := by
  obtain ⟨t, hm⟩ := hm
  exact (pe_glob (v := .int i) hg hm ⟨t, rfl⟩ hd).weak (le_c fun F => by simp only [Rep])
theorem de_gstr {x z : Str} (hm : ∃ t, X.mg x = some (.str z t)) (hg : Gl X x := by rfl) (hd : (x == ("__debug__" : Str)) = false := by decide) : PE X (.Name x pos) (le g en W (dC (.str z))) := by
  obtain ⟨t, hm⟩ := hm
  exact (pe_glob (v := .str z) hg hm ⟨t, rfl⟩ hd).weak (le_c fun F => by simp only [Rep])
theorem de_gref {x : Str} {a : Addr} (o : On X g) (hm : g.mg x = some (.ref a)) (hg : Gl X x := by rfl) (hd : (x == ("__debug__" : Str)) = false := by decide) : PE X (.Name x pos) (le g en W (dC (.cl x))) :=
  (pe_glob (v := .ref a) hg (by rw [o.mg]; exact hm) rfl hd).weak (le_c fun F => by simp only [Rep]; exact ⟨a, rfl, hm⟩)
theorem de_ty {x : Str} {n : String} (hm : X.mg x = none) (hv : bootBuiltins x = some (.type n)) (hg : Gl X x := by rfl) (hn : x ≠ "__name__" := by decide) (hd : (x == ("__debug__" : Str)) = false := by decide) : PE X (.Name x pos) (le g en W (dC (.ty n))) :=
  (pe_bltn (v := .ty n) hg hm hv rfl hn hd).weak (le_c fun F => by simp only [Rep])

/-! ### two-place operations on values -/
def rO (g : Gr) (en : En) (h : D → D → Option D) : R2 := fun x y H Q => ∃ F σ st d1 d2 d, Rs g en F σ H st ∧ Rep g F d1 x ∧ Rep g F d2 y ∧ h d1 d2 = some d ∧
  ∀ v F' H', Sub F F' → Rs g en F' σ H' st → Rep g F' d v → Q v H'
abbrev OpD (X : Cx) (g : Gr) (en : En) (f : Value → Value → Sem Value) (h : D → D → Option D) : Prop := OpR X f (rO g en h)
def dOp (h : D → D → Option D) (ta tb : DE) : DE := fun st P R => ta st (fun d1 st1 => tb st1 (fun d2 st2 => ∃ d, h d1 d2 = some d ∧ P d st2) R) R
theorem le_op {h : D → D → Option D} : ∀ σ H Q, le g en W (dOp h ta tb) σ H Q → tOp (rO g en h) (le g en W ta) (le g en W tb) σ H Q := by
  rintro σ H Q ⟨F, st, P, R, rs, t, kP, kR⟩
  refine ⟨F, st, _, R, rs, t, fun d1 st1 v1 F1 H1 t1 s1 rs1 r1 => ?_, kR⟩
  refine ⟨F1, st1, _, R, rs1, t1, fun d2 st2 v2 F2 H2 t2 s2 rs2 r2 => ?_, kR.sub s1⟩
  obtain ⟨d, e, p⟩ := t2
  exact ⟨F2, σ, st2, d1, d2, d, rs2, r1.mono s2, r2, e, fun v F3 H3 s3 rs3 r3 => kP d st2 v F3 H3 p (s1.trans (s2.trans s3)) rs3 r3⟩
theorem de_op {op : Operator} {h : D → D → Option D} (ho : OpD X g en (binaryOp op) h) (ha : PE X a (le g en W ta)) (hb : PE X b (le g en W tb)) : PE X (.BinOp a op b pos) (le g en W (dOp h ta tb)) := (pe_op ho ha hb).weak le_op
theorem de_cmp {op : CmpOp} {h : D → D → Option D} (ho : OpD X g en (compareOp op) h) (ha : PE X a (le g en W ta)) (hb : PE X b (le g en W tb)) (hm : behindInMarks op b = false) : PE X (.Compare a [op] [b] pos) (le g en W (dOp h ta tb)) := (pe_cmpR ho ha hb hm).weak le_op
/-- a test -/
def dTest (t : DE) : DT := fun st P R => t st (fun d st' => ∃ b, d = .bl b ∧ P b st') R
theorem Rep.bl_iff {F : Hp} {b : Bool} {v : V} (h : Rep g F (.bl b) v) : v = .bl b := by simpa only [Rep] using h
theorem lt_test {t : DE} {u : TE} (h : ∀ σ H Q, le g en W t σ H Q → u σ H Q) : ∀ σ H Q, lt g en W (dTest t) σ H Q → tTest u σ H Q := by
  rintro σ H Q ⟨F, st, P, R, rs, t, kP, kR⟩
  refine h _ _ _ ⟨F, st, _, R, rs, t, fun d st1 v F1 H1 t1 s1 rs1 r1 => ?_, kR⟩
  obtain ⟨b, rfl, p⟩ := t1
  exact ⟨b, r1.bl_iff, kP b st1 F1 H1 p s1 rs1⟩
theorem dt_cmp {op : CmpOp} {h : D → D → Option D} (ho : OpD X g en (compareOp op) h) (ha : PE X a (le g en W ta)) (hb : PE X b (le g en W tb)) (hm : behindInMarks op b = false) : PT X (.Compare a [op] [b] pos) (lt g en W (dTest (dOp h ta tb))) :=
  (pt_cmpR ho ha hb hm).weak (lt_test le_op)
theorem dt_val {e : Expr} {t : DE} (h : PE X e (le g en W t)) (he : ∀ whole, isTrue e X.env whole = (do let v ← whole; standAt e.pos; holding [v] (truthy v)) := by intro _; rfl) : PT X e (lt g en W (dTest t)) :=
  (pt_val h he).weak (lt_test fun _ _ _ q => q)
end
end Dl

set_option maxHeartbeats 3900000
namespace Dl
open PySem
open PySem.Spec
open PyProof.Rows
open L2

/-! ### data as the library's -/
mutual
def toPy : D → Option PyData
  | .non => some .none
  | .bl b => some (.bool b)
  | .int i => some (.int i)
  | .str x => some (.str x)
  | .tup ds => (toPys ds).map .tuple
  | .lst ds => (toPys ds).map .list
  | _ => none
def toPys : List D → Option (List PyData)
  | [] => some []
  | d :: ds => (toPy d).bind fun p => (toPys ds).map fun ps => p :: ps
end
mutual
theorem Rep.dp {g : Gr} {F H : Hp} (s : Sub F H) : ∀ {d : D} {v : V} {p : PyData}, Rep g F d v → toPy d = some p → Dp g.K H v p
  | .non, _, _, r, e => by simp only [Rep] at r; simp only [toPy, Option.some.injEq] at e; subst r e; exact .non
  | .bl b, _, _, r, e => by simp only [Rep] at r; simp only [toPy, Option.some.injEq] at e; subst r e; exact .bl b
  | .int b, _, _, r, e => by simp only [Rep] at r; simp only [toPy, Option.some.injEq] at e; subst r e; exact .int b
  | .str b, _, _, r, e => by simp only [Rep] at r; simp only [toPy, Option.some.injEq] at e; subst r e; exact .str b
  | .tup ds, _, _, r, e => by
    simp only [Rep] at r
    simp only [toPy, Option.map_eq_some_iff] at e
    obtain ⟨a, vs, rfl, q, t⟩ := r
    obtain ⟨ps, e1, rfl⟩ := e
    exact .tup (s.sqT q) (Reps.dp s t e1)
  | .lst ds, _, _, r, e => by
    simp only [Rep] at r
    simp only [toPy, Option.map_eq_some_iff] at e
    obtain ⟨a, vs, rfl, q, t⟩ := r
    obtain ⟨ps, e1, rfl⟩ := e
    exact .lst (.of (s _ _ q)) (Reps.dp s t e1)
  | .dct _, _, _, r, e => by simp [toPy] at e
  | .ob _ _, _, _, r, e => by simp [toPy] at e
  | .pen, _, _, r, e => by simp [toPy] at e
  | .cl _, _, _, r, e => by simp [toPy] at e
  | .ty _, _, _, r, e => by simp [toPy] at e
theorem Reps.dp {g : Gr} {F H : Hp} (s : Sub F H) : ∀ {ds : List D} {vs : List V} {ps : List PyData}, Reps g F ds vs → toPys ds = some ps → DpAll g.K H vs ps
  | [], _, _, r, e => by simp only [Reps] at r; simp only [toPys, Option.some.injEq] at e; subst r e; exact .nil
  | d :: ds, _, _, r, e => by
    simp only [Reps] at r
    simp only [toPys, Option.bind_eq_some_iff, Option.map_eq_some_iff] at e
    obtain ⟨v, vr, rfl, r1, r2⟩ := r
    obtain ⟨p, e1, ps, e2, rfl⟩ := e
    exact .cons (Rep.dp s r1 e1) (Reps.dp s r2 e2)
end
theorem Reps.length {g : Gr} {F : Hp} : ∀ {ds : List D} {vs : List V}, Reps g F ds vs → vs.length = ds.length
  | [], _, h => by simp only [Reps] at h; subst h; rfl
  | _ :: ds, _, h => by
    simp only [Reps] at h
    obtain ⟨v, r, rfl, _, t⟩ := h
    rw [List.length_cons, List.length_cons, Reps.length t]
theorem Reps.get {g : Gr} {F : Hp} : ∀ {ds : List D} {vs : List V} {i : Nat} {d : D}, Reps g F ds vs → ds[i]? = some d → ∃ v, vs[i]? = some v ∧ Rep g F d v
  | [], _, _, _, _, e => by cases e
  | _ :: ds, _, 0, d, h, e => by
    simp only [Reps] at h
    obtain ⟨v, r, rfl, q, t⟩ := h
    have e' : _ = d := Option.some.inj e
    subst e'
    exact ⟨v, rfl, q⟩
  | _ :: ds, _, i + 1, d, h, e => by
    simp only [Reps] at h
    obtain ⟨v, r, rfl, q, t⟩ := h
    obtain ⟨w, e1, e2⟩ := Reps.get (i := i) t (by simpa using e)
    exact ⟨w, by simpa using e1, e2⟩
theorem Reps.got {g : Gr} {F : Hp} {ds : List D} {vs : List V} {i : Nat} {v : V} (h : Reps g F ds vs) (e : vs[i]? = some v) : ∃ d, ds[i]? = some d ∧ Rep g F d v := by
  have hi : i < ds.length := by rw [← h.length]; exact (List.getElem?_eq_some_iff.mp e).1
  obtain ⟨w, e1, r⟩ := h.get (i := i) (d := ds[i]) (List.getElem?_eq_getElem hi)
  rw [e] at e1; cases e1
  exact ⟨_, List.getElem?_eq_getElem hi, r⟩
theorem Reps.append {g : Gr} {F : Hp} : ∀ {ds es : List D} {vs ws : List V}, Reps g F ds vs → Reps g F es ws → Reps g F (ds ++ es) (vs ++ ws)
  | [], _, _, _, h, k => by simp only [Reps] at h; subst h; exact k
  | _ :: ds, _, _, _, h, k => by
    simp only [Reps] at h
    obtain ⟨v, r, rfl, q, t⟩ := h
    show Reps g F (_ :: (ds ++ _)) _
    simp only [Reps]
    exact ⟨v, _, rfl, q, Reps.append t k⟩
theorem Reps.take {g : Gr} {F : Hp} : ∀ {ds : List D} {vs : List V} (n : Nat), Reps g F ds vs → Reps g F (ds.take n) (vs.take n)
  | _, _, 0, _ => by simp [Reps]
  | [], _, n + 1, h => by simp only [Reps] at h; subst h; simp [Reps]
  | _ :: ds, _, n + 1, h => by
    simp only [Reps] at h
    obtain ⟨v, r, rfl, q, t⟩ := h
    simp only [List.take_succ_cons, Reps]
    exact ⟨v, _, rfl, q, Reps.take n t⟩
theorem Reps.drop {g : Gr} {F : Hp} : ∀ {ds : List D} {vs : List V} (n : Nat), Reps g F ds vs → Reps g F (ds.drop n) (vs.drop n)
  | _, _, 0, h => by simpa using h
  | [], _, n + 1, h => by simp only [Reps] at h; subst h; simp [Reps]
  | _ :: ds, _, n + 1, h => by
    simp only [Reps] at h
    obtain ⟨v, r, rfl, q, t⟩ := h
    simpa using Reps.drop n t
theorem Reps.nil_iff {g : Gr} {F : Hp} {ds : List D} {vs : List V} (h : Reps g F ds vs) : vs = [] ↔ ds = [] := by
  have e := h.length
  constructor
  · intro z; subst z; exact List.eq_nil_of_length_eq_zero e.symm
  · intro z; subst z; exact List.eq_nil_of_length_eq_zero e
/-! ### what operators give -/
def natLt64 (i : Int) : Bool := decide (-(2 ^ 64) < i) && decide (i < 2 ^ 64)
def addD : D → D → Option D
  | .int i, .int j => some (.int (i + j))
  | .str x, .str y => if x.length + y.length ≤ sizeLine then some (.str (x ++ y)) else none
  | .lst xs, .lst ys => if xs.length + ys.length ≤ sizeLine then some (.lst (xs ++ ys)) else none
  | .tup xs, .tup ys => if xs.length + ys.length ≤ sizeLine then some (.tup (xs ++ ys)) else none
  | _, _ => none
def subD : D → D → Option D
  | .int i, .int j => some (.int (i - j))
  | _, _ => none
def mulD : D → D → Option D
  | .int i, .int j => if natLt64 i || natLt64 j then some (.int (i * j)) else none
  | .lst xs, .int k => if -(2 ^ 63) ≤ k ∧ k < 2 ^ 63 ∧ xs.length * k.toNat ≤ sizeLine then some (.lst (List.replicate k.toNat xs).flatten) else none
  | .tup xs, .int k => if xs.length ≠ 0 ∧ 2 ≤ k ∧ k ≤ 1000 ∧ xs.length ≤ 1000 then some (.tup (List.replicate k.toNat xs).flatten) else none
  | _, _ => none
def modD : D → D → Option D
  | .int i, .int j => if 0 < j then some (.int (i % j)) else none
  | _, _ => none
def fdivD : D → D → Option D
  | .int i, .int j => if 0 < j ∧ j < 1073741824 then some (.int (i / j)) else none
  | _, _ => none
def powD : D → D → Option D
  | .int i, .int j => if 0 ≤ j ∧ j ≤ 1000000 ∧ i.natAbs < 2 ^ 64 then some (.int (i ^ j.toNat)) else none
  | _, _ => none
section
variable {X : Cx} {g : Gr} {en : En} {W : WX}
theorem Rs.tup {F H : Hp} {σ : L2.St} {st : DS} (h : Rs g en F σ H st) {vs : List V} {ds : List D} {F0 : Hp} (r : Reps g F ds vs) {Q : VK} (k : ∀ v F' H', Sub F F' → Rs g en F' σ H' st → Rep g F' (.tup ds) v → Q v H') : ∀ p, H p = none → Q (.ref p) (upd H p (.tup vs)) := fun p hp => by
  have hF : F p = none := by
    cases e : F p with
    | none => rfl
    | some u => rw [h.w.sub _ _ e] at hp; cases hp
  refine k _ _ _ (Sub.new hF) (h.laid hp fun ps z => by cases z) ?_
  simp only [Rep]
  exact ⟨p, vs, rfl, .of upd_same, r.mono (Sub.new hF)⟩
theorem Rs.lst {F H : Hp} {σ : L2.St} {st : DS} (h : Rs g en F σ H st) {vs : List V} {ds : List D} (r : Reps g F ds vs) {Q : VK} (k : ∀ v F' H', Sub F F' → Rs g en F' σ H' st → Rep g F' (.lst ds) v → Q v H') : ∀ p, H p = none → Q (.ref p) (upd H p (.lst vs)) := fun p hp => by
  have hF : F p = none := by
    cases e : F p with
    | none => rfl
    | some u => rw [h.w.sub _ _ e] at hp; cases hp
  refine k _ _ _ (Sub.new hF) (h.laid hp fun ps z => by cases z) ?_
  simp only [Rep]
  exact ⟨p, vs, rfl, upd_same, r.mono (Sub.new hF)⟩
theorem op_addD (o : On X g) : OpD X g en (binaryOp .Add) addD := by
  rintro pins s σ' H x y v u Q I rx ry ⟨F, σ, st, d1, d2, d, rs, r1, r2, e, k⟩
  unfold addD at e
  split at e
  · simp only [Rep] at r1 r2
    cases e
    exact op_add pins s σ' H x y v u Q I rx ry ⟨_, _, r1, r2, k _ F H (Sub.refl _) rs (by simp only [Rep])⟩
  · simp only [Rep] at r1 r2
    split at e
    · rename_i hz
      cases e
      exact op_add_str pins s σ' H x y v u Q I rx ry ⟨_, _, r1, r2, hz, k _ F H (Sub.refl _) rs (by simp only [Rep])⟩
    · cases e
  · simp only [Rep] at r1 r2
    obtain ⟨a, vs, rfl, q1, t1⟩ := r1
    obtain ⟨b, ws, rfl, q2, t2⟩ := r2
    split at e
    · rename_i hz
      cases e
      exact op_cat pins s σ' H _ _ v u Q I rx ry ⟨a, b, vs, ws, rfl, rfl, rs.w.sub _ _ q1, rs.w.sub _ _ q2, by rw [t1.length, t2.length]; exact hz, rs.lst (t1.append t2) k⟩
    · cases e
  · simp only [Rep] at r1 r2
    obtain ⟨a, vs, rfl, q1, t1⟩ := r1
    obtain ⟨b, ws, rfl, q2, t2⟩ := r2
    split at e
    · rename_i hz
      cases e
      refine op_catA pins s σ' H _ _ v u Q I rx ry ⟨a, b, vs, ws, rfl, rfl, by rw [o.K]; exact rs.w.sub.sqT q1, by rw [o.K]; exact rs.w.sub.sqT q2, by rw [t1.length, t2.length]; exact hz, fun z => ?_, fun _ z => ?_, fun _ _ => rs.tup (F0 := F) (t1.append t2) k⟩
      · have z' := t1.nil_iff.mp z
        refine k _ F H (Sub.refl _) rs ?_
        simp only [Rep, z', List.nil_append]
        exact ⟨b, ws, rfl, q2, t2⟩
      · have z' := t2.nil_iff.mp z
        refine k _ F H (Sub.refl _) rs ?_
        simp only [Rep, z', List.append_nil]
        exact ⟨a, vs, rfl, q1, t1⟩
    · cases e
  · cases e
theorem op_subD : OpD X g en (binaryOp .Sub) subD := by
  rintro pins s σ' H x y v u Q I rx ry ⟨F, σ, st, d1, d2, d, rs, r1, r2, e, k⟩
  unfold subD at e
  split at e
  · simp only [Rep] at r1 r2
    cases e
    exact op_sub pins s σ' H x y v u Q I rx ry ⟨_, _, r1, r2, k _ F H (Sub.refl _) rs (by simp only [Rep])⟩
  · cases e
theorem Reps.rep {F : Hp} {ds : List D} {vs : List V} (h : Reps g F ds vs) : ∀ n : Nat, Reps g F (List.replicate n ds).flatten (List.replicate n vs).flatten
  | 0 => by simp only [List.replicate_zero, List.flatten_nil, Reps]
  | n + 1 => by
    rw [List.replicate_succ, List.replicate_succ, List.flatten_cons, List.flatten_cons]
    exact h.append (Reps.rep h n)
theorem op_mulD (o : On X g) : OpD X g en (binaryOp .Mult) mulD := by
  rintro pins s σ' H x y v u Q I rx ry ⟨F, σ, st, d1, d2, d, rs, r1, r2, e, k⟩
  unfold mulD at e
  split at e
  · simp only [Rep] at r1 r2
    split at e
    · rename_i i j hz
      cases e
      refine op_mul pins s σ' H x y v u Q I rx ry ⟨_, _, r1, r2, ?_, k _ F H (Sub.refl _) rs (by simp only [Rep])⟩
      simp only [natLt64, Bool.or_eq_true, Bool.and_eq_true, decide_eq_true_eq] at hz
      exact hz
    · cases e
  · simp only [Rep] at r1 r2
    obtain ⟨a, vs, rfl, q1, t1⟩ := r1
    subst r2
    split at e
    · rename_i hz
      cases e
      exact op_rep pins s σ' H _ _ v u Q I rx ry ⟨a, _, vs, rfl, rfl, rs.w.sub _ _ q1, hz.1, hz.2.1, by rw [t1.length]; exact hz.2.2, rs.lst (t1.rep _) k⟩
    · cases e
  · simp only [Rep] at r1 r2
    obtain ⟨a, vs, rfl, q1, t1⟩ := r1
    subst r2
    split at e
    · rename_i hz
      cases e
      exact op_repT pins s σ' H _ _ v u Q I rx ry ⟨a, _, vs, rfl, rfl, by rw [o.K]; exact rs.w.sub.sqT q1, fun y => hz.1 (by rw [← t1.length, y]; rfl), hz.2.1, hz.2.2.1, by rw [t1.length]; exact hz.2.2.2, rs.tup (F0 := F) (t1.rep _) k⟩
    · cases e
  · cases e
theorem op_modD : OpD X g en (binaryOp .Mod) modD := by
  rintro pins s σ' H x y v u Q I rx ry ⟨F, σ, st, d1, d2, d, rs, r1, r2, e, k⟩
  unfold modD at e
  split at e
  · simp only [Rep] at r1 r2
    split at e
    · rename_i hz
      cases e
      exact op_mod pins s σ' H x y v u Q I rx ry ⟨_, _, r1, r2, hz, k _ F H (Sub.refl _) rs (by simp only [Rep])⟩
    · cases e
  · cases e
theorem op_fdivD : OpD X g en (binaryOp .FloorDiv) fdivD := by
  rintro pins s σ' H x y v u Q I rx ry ⟨F, σ, st, d1, d2, d, rs, r1, r2, e, k⟩
  unfold fdivD at e
  split at e
  · simp only [Rep] at r1 r2
    split at e
    · rename_i hz
      cases e
      exact op_fdiv pins s σ' H x y v u Q I rx ry ⟨_, _, r1, r2, hz, k _ F H (Sub.refl _) rs (by simp only [Rep])⟩
    · cases e
  · cases e
theorem op_powD : OpD X g en (binaryOp .Pow) powD := by
  rintro pins s σ' H x y v u Q I rx ry ⟨F, σ, st, d1, d2, d, rs, r1, r2, e, k⟩
  unfold powD at e
  split at e
  · simp only [Rep] at r1 r2
    split at e
    · rename_i hz
      cases e
      exact op_pow pins s σ' H x y v u Q I rx ry ⟨_, _, r1, r2, hz, k _ F H (Sub.refl _) rs (by simp only [Rep])⟩
    · cases e
  · cases e
end
end Dl

set_option maxHeartbeats 3900000
namespace Dl
open PySem
open PySem.Spec
open PyProof.Rows
open L2

/-! ### comparisons -/
/-- x == y -/
def eqD (x y : D) : Option Bool := match toPy x, toPy y with
  | some p, some q => if SeqAt.shaped p && SeqAt.shaped q then some (PyData.eqv p q) else none
  | _, _ => none
def eqO (x y : D) : Option D := (eqD x y).map .bl
def neO (x y : D) : Option D := (eqD x y).map fun b => .bl (!b)
def ltO : D → D → Option D
  | .int i, .int j => some (.bl (decide (i < j)))
  | .str i, .str j => some (.bl (decide (i.cps.toList < j.cps.toList)))
  | _, _ => none
def leO : D → D → Option D
  | .int i, .int j => some (.bl (decide (i ≤ j)))
  | _, _ => none
def gtO : D → D → Option D
  | .int i, .int j => some (.bl (decide (j < i)))
  | _, _ => none
def geO : D → D → Option D
  | .int i, .int j => some (.bl (decide (j ≤ i)))
  | _, _ => none
def isN : D → Bool
  | .non => true
  | _ => false
def isO (x y : D) : Option D := match y with
  | .non => some (.bl (isN x))
  | _ => none
def isntO (x y : D) : Option D := match y with
  | .non => some (.bl (!isN x))
  | _ => none
theorem Rep.isN {g : Gr} {F : Hp} {d : D} {v : V} (r : Rep g F d v) : decide (v = .non) = isN d := by
  cases d <;> simp only [Rep] at r
  case non => subst r; rfl
  case bl => subst r; rfl
  case int => subst r; rfl
  case str => subst r; rfl
  case tup => obtain ⟨a, vs, rfl, _⟩ := r; rfl
  case lst => obtain ⟨a, vs, rfl, _⟩ := r; rfl
  case ob => obtain ⟨a, _, _, _, rfl, _⟩ := r; rfl
  case pen => subst r; rfl
  case cl => obtain ⟨a, rfl, _⟩ := r; rfl
  case ty => subst r; rfl
  case fn => subst r; rfl
  case er => obtain ⟨a, _, _, _, rfl, _⟩ := r; rfl
section
variable {X : Cx} {g : Gr} {en : En} {W : WX}
theorem op_eqO (o : On X g) : OpD X g en (compareOp .Eq) eqO := by
  rintro pins s σ' H x y v u Q I rx ry ⟨F, σ, st, d1, d2, d, rs, r1, r2, e, k⟩
  unfold eqO eqD at e
  split at e
  · rename_i p q e1 e2
    split at e
    · rename_i hz
      cases e
      simp only [Bool.and_eq_true] at hz
      exact op_eqD (by have := o.hu; omega) pins s σ' H x y v u Q I rx ry ⟨p, q, by rw [o.K]; exact r1.dp rs.w.sub e1, by rw [o.K]; exact r2.dp rs.w.sub e2, hz.1, hz.2, k _ F H (Sub.refl _) rs (by simp only [Rep])⟩
    · cases e
  · cases e
theorem op_neO (o : On X g) : OpD X g en (compareOp .NotEq) neO := by
  rintro pins s σ' H x y v u Q I rx ry ⟨F, σ, st, d1, d2, d, rs, r1, r2, e, k⟩
  unfold neO eqD at e
  split at e
  · rename_i p q e1 e2
    split at e
    · rename_i hz
      cases e
      simp only [Bool.and_eq_true] at hz
      exact op_neD (by have := o.hu; omega) pins s σ' H x y v u Q I rx ry ⟨p, q, by rw [o.K]; exact r1.dp rs.w.sub e1, by rw [o.K]; exact r2.dp rs.w.sub e2, hz.1, hz.2, k _ F H (Sub.refl _) rs (by simp only [Rep])⟩
    · cases e
  · cases e
theorem op_ltO : OpD X g en (compareOp .Lt) ltO := by
  rintro pins s σ' H x y v u Q I rx ry ⟨F, σ, st, d1, d2, d, rs, r1, r2, e, k⟩
  unfold ltO at e
  split at e
  · simp only [Rep] at r1 r2
    cases e
    exact op_lt pins s σ' H x y v u Q I rx ry ⟨_, _, r1, r2, k _ F H (Sub.refl _) rs (by simp only [Rep])⟩
  · simp only [Rep] at r1 r2
    cases e
    exact op_lt_str pins s σ' H x y v u Q I rx ry ⟨_, _, r1, r2, k _ F H (Sub.refl _) rs (by simp only [Rep])⟩
  · cases e
theorem op_leO : OpD X g en (compareOp .LtE) leO := by
  rintro pins s σ' H x y v u Q I rx ry ⟨F, σ, st, d1, d2, d, rs, r1, r2, e, k⟩
  unfold leO at e
  split at e
  · simp only [Rep] at r1 r2
    cases e
    exact op_le pins s σ' H x y v u Q I rx ry ⟨_, _, r1, r2, k _ F H (Sub.refl _) rs (by simp only [Rep])⟩
  · cases e
theorem op_gtO : OpD X g en (compareOp .Gt) gtO := by
  rintro pins s σ' H x y v u Q I rx ry ⟨F, σ, st, d1, d2, d, rs, r1, r2, e, k⟩
  unfold gtO at e
  split at e
  · simp only [Rep] at r1 r2
    cases e
    exact op_gt pins s σ' H x y v u Q I rx ry ⟨_, _, r1, r2, k _ F H (Sub.refl _) rs (by simp only [Rep])⟩
  · cases e
theorem op_geO : OpD X g en (compareOp .GtE) geO := by
  rintro pins s σ' H x y v u Q I rx ry ⟨F, σ, st, d1, d2, d, rs, r1, r2, e, k⟩
  unfold geO at e
  split at e
  · simp only [Rep] at r1 r2
    cases e
    exact op_ge pins s σ' H x y v u Q I rx ry ⟨_, _, r1, r2, k _ F H (Sub.refl _) rs (by simp only [Rep])⟩
  · cases e
theorem op_isO : OpD X g en (compareOp .Is) isO := by
  rintro pins s σ' H x y v u Q I rx ry ⟨F, σ, st, d1, d2, d, rs, r1, r2, e, k⟩
  unfold isO at e
  split at e
  · simp only [Rep] at r2
    cases e
    exact op_isN pins s σ' H x y v u Q I rx ry ⟨r2, k _ F H (Sub.refl _) rs (by rw [r1.isN]; simp only [Rep])⟩
  · cases e
theorem op_isntO : OpD X g en (compareOp .IsNot) isntO := by
  rintro pins s σ' H x y v u Q I rx ry ⟨F, σ, st, d1, d2, d, rs, r1, r2, e, k⟩
  unfold isntO at e
  split at e
  · simp only [Rep] at r2
    cases e
    exact op_notN pins s σ' H x y v u Q I rx ry ⟨r2, k _ F H (Sub.refl _) rs (by rw [r1.isN]; simp only [Rep])⟩
  · cases e
end
/-- a op b op' c -/
def dChain (h h' : D → D → Option D) (ta tb tc : DE) : DE := fun st P R => ta st (fun d1 st1 => tb st1 (fun d2 st2 => ∃ b, h d1 d2 = some (.bl b) ∧
  (if b = true then tc st2 (fun d3 st3 => ∃ d, h' d2 d3 = some d ∧ P d st3) R else P (.bl false) st2)) R) R
/-- and, or, not; on truth values -/
def dAnd (ta tb : DE) : DE := fun st P R => ta st (fun d st1 => ∃ b, d = .bl b ∧ if b = true then tb st1 P R else P (.bl false) st1) R
def dOr (ta tb : DE) : DE := fun st P R => ta st (fun d st1 => ∃ b, d = .bl b ∧ if b = true then P (.bl true) st1 else tb st1 P R) R
def dNot (ta : DE) : DE := fun st P R => ta st (fun d st1 => ∃ b, d = .bl b ∧ P (.bl (!b)) st1) R
def dIf (t : DT) (ta tb : DE) : DE := fun st P R => t st (fun b st1 => if b = true then ta st1 P R else tb st1 P R) R
def dtAnd (t u : DT) : DT := fun st P R => t st (fun b st1 => if b = true then u st1 P R else P false st1) R
def dtOr (t u : DT) : DT := fun st P R => t st (fun b st1 => if b = true then P true st1 else u st1 P R) R
def dtNot (t : DT) : DT := fun st P R => t st (fun b st1 => P (!b) st1) R
section
variable {X : Cx} {g : Gr} {en : En} {W : WX} {a b c : Expr} {ta tb tc : DE} {t u : DT} {pos : Pos} {rest : List Expr}
theorem le_chain {h h' : D → D → Option D} : ∀ σ H Q, le g en W (dChain h h' ta tb tc) σ H Q → tChain (rO g en h) (rO g en h') (le g en W ta) (le g en W tb) (le g en W tc) σ H Q := by
  rintro σ H Q ⟨F, st, P, R, rs, q, kP, kR⟩
  refine ⟨F, st, _, R, rs, q, fun d1 st1 v1 F1 H1 t1 s1 rs1 r1 => ?_, kR⟩
  refine ⟨F1, st1, _, R, rs1, t1, fun d2 st2 v2 F2 H2 t2 s2 rs2 r2 => ?_, kR.sub s1⟩
  obtain ⟨b, e, p⟩ := t2
  refine ⟨F2, σ, st2, d1, d2, .bl b, rs2, r1.mono s2, r2, e, fun v F3 H3 s3 rs3 r3 => ⟨b, r3.bl_iff, ?_⟩⟩
  cases b with
  | false =>
    simp only [Bool.false_eq_true, if_false] at p ⊢
    exact kP _ _ _ F3 H3 p (s1.trans (s2.trans s3)) rs3 (by simp only [Rep])
  | true =>
    simp only [if_true] at p ⊢
    refine ⟨F3, st2, _, R, rs3, p, fun d3 st3 v3 F4 H4 t4 s4 rs4 r4 => ?_, kR.sub (s1.trans (s2.trans s3))⟩
    obtain ⟨d, e2, p2⟩ := t4
    exact ⟨F4, σ, st3, d2, d3, d, rs4, r2.mono (s3.trans s4), r4, e2, fun v F5 H5 s5 rs5 r5 => kP d st3 v F5 H5 p2 (s1.trans (s2.trans (s3.trans (s4.trans s5)))) rs5 r5⟩
theorem de_chain {op op' : CmpOp} {h h' : D → D → Option D} (ho : OpD X g en (compareOp op) h) (ho' : OpD X g en (compareOp op') h') (ha : PE X a (le g en W ta)) (hb : PE X b (le g en W tb)) (hc : PE X c (le g en W tc))
    (hm : lastMarks [op, op'] [b, c] = false := by with_unfolding_all rfl) : PE X (.Compare a [op, op'] [b, c] pos) (le g en W (dChain h h' ta tb tc)) := (pe_chain ho ho' ha hb hc hm).weak le_chain
theorem dt_chain {op op' : CmpOp} {h h' : D → D → Option D} (ho : OpD X g en (compareOp op) h) (ho' : OpD X g en (compareOp op') h') (ha : PE X a (le g en W ta)) (hb : PE X b (le g en W tb)) (hc : PE X c (le g en W tc))
    (hm : lastMarks [op, op'] [b, c] = false := by with_unfolding_all rfl) : PT X (.Compare a [op, op'] [b, c] pos) (lt g en W (dTest (dChain h h' ta tb tc))) := (pt_chain ho ho' ha hb hc hm).weak (lt_test le_chain)
theorem de_one {op : BoolOp} (ha : PE X a (le g en W ta)) : PE X (.BoolOp op [a] pos) (le g en W ta) := pe_one ha
theorem de_and (ha : PE X a (le g en W ta)) (hb : PE X (.BoolOp .And (b :: rest) pos) (le g en W tb)) : PE X (.BoolOp .And (a :: b :: rest) pos) (le g en W (dAnd ta tb)) := by
  refine (pe_and ha hb).weak ?_
  rintro σ H Q ⟨F, st, P, R, rs, q, kP, kR⟩
  refine ⟨F, st, _, R, rs, q, fun d1 st1 v1 F1 H1 t1 s1 rs1 r1 => ?_, kR⟩
  obtain ⟨b, rfl, p⟩ := t1
  refine ⟨b, r1.bl_iff, ?_⟩
  cases b with
  | false =>
    simp only [Bool.false_eq_true, if_false] at p ⊢
    exact kP _ _ _ F1 H1 p s1 rs1 (by simp only [Rep])
  | true =>
    simp only [if_true] at p ⊢
    exact ⟨F1, st1, P, R, rs1, p, fun d2 st2 v2 F2 H2 t2 s2 => kP d2 st2 v2 F2 H2 t2 (s1.trans s2), kR.sub s1⟩
theorem de_or (ha : PE X a (le g en W ta)) (hb : PE X (.BoolOp .Or (b :: rest) pos) (le g en W tb)) : PE X (.BoolOp .Or (a :: b :: rest) pos) (le g en W (dOr ta tb)) := by
  refine (pe_or ha hb).weak ?_
  rintro σ H Q ⟨F, st, P, R, rs, q, kP, kR⟩
  refine ⟨F, st, _, R, rs, q, fun d1 st1 v1 F1 H1 t1 s1 rs1 r1 => ?_, kR⟩
  obtain ⟨b, rfl, p⟩ := t1
  refine ⟨b, r1.bl_iff, ?_⟩
  cases b with
  | false =>
    simp only [Bool.false_eq_true, if_false] at p ⊢
    exact ⟨F1, st1, P, R, rs1, p, fun d2 st2 v2 F2 H2 t2 s2 => kP d2 st2 v2 F2 H2 t2 (s1.trans s2), kR.sub s1⟩
  | true =>
    simp only [if_true] at p ⊢
    exact kP _ _ _ F1 H1 p s1 rs1 (by simp only [Rep])
theorem de_not (ha : PE X a (le g en W ta)) : PE X (.UnaryOp .Not a pos) (le g en W (dNot ta)) := by
  refine (pe_not ha).weak ?_
  rintro σ H Q ⟨F, st, P, R, rs, q, kP, kR⟩
  refine ⟨F, st, _, R, rs, q, fun d1 st1 v1 F1 H1 t1 s1 rs1 r1 => ?_, kR⟩
  obtain ⟨b, rfl, p⟩ := t1
  exact ⟨b, r1.bl_iff, kP _ _ _ F1 H1 p s1 rs1 (by simp only [Rep])⟩
theorem de_if (hc : PT X c (lt g en W t)) (ha : PE X a (le g en W ta)) (hb : PE X b (le g en W tb)) : PE X (.IfExp c a b pos) (le g en W (dIf t ta tb)) := by
  refine (pe_ifExp hc ha hb).weak ?_
  rintro σ H Q ⟨F, st, P, R, rs, q, kP, kR⟩
  refine ⟨F, st, _, R, rs, q, fun b st1 F1 H1 t1 s1 rs1 => ?_, kR⟩
  cases b with
  | false =>
    simp only [Bool.false_eq_true, if_false] at t1 ⊢
    exact ⟨F1, st1, P, R, rs1, t1, fun d2 st2 v2 F2 H2 t2 s2 => kP d2 st2 v2 F2 H2 t2 (s1.trans s2), kR.sub s1⟩
  | true =>
    simp only [if_true] at t1 ⊢
    exact ⟨F1, st1, P, R, rs1, t1, fun d2 st2 v2 F2 H2 t2 s2 => kP d2 st2 v2 F2 H2 t2 (s1.trans s2), kR.sub s1⟩
/-! tests -/
theorem dt_and1 (ha : PT X a (lt g en W t)) : PW X (.BoolOp .And [a] pos) (lt g en W t) := pw_and1 ha
theorem dt_or1 (ha : PT X a (lt g en W t)) : PW X (.BoolOp .Or [a] pos) (lt g en W t) := pw_or1 ha
theorem _root_.L2.PW.weak {X : Cx} {e : Expr} {t t' : TT} (h : PW X e t) (w : ∀ σ H Q, t' σ H Q → t σ H Q) : PW X e t' := ⟨fun wh pins s σ H Q I q => h.run wh pins s σ H Q I (w σ H Q q)⟩
theorem dt_and (ha : PT X a (lt g en W t)) (hb : PW X (.BoolOp .And (b :: rest) pos) (lt g en W u)) : PW X (.BoolOp .And (a :: b :: rest) pos) (lt g en W (dtAnd t u)) := by
  refine (pw_and ha hb).weak ?_
  rintro σ H Q ⟨F, st, P, R, rs, q, kP, kR⟩
  refine ⟨F, st, _, R, rs, q, fun b st1 F1 H1 t1 s1 rs1 => ?_, kR⟩
  cases b with
  | false =>
    simp only [Bool.false_eq_true, if_false] at t1 ⊢
    exact kP _ _ F1 H1 t1 s1 rs1
  | true =>
    simp only [if_true] at t1 ⊢
    exact ⟨F1, st1, P, R, rs1, t1, fun b2 st2 F2 H2 t2 s2 => kP b2 st2 F2 H2 t2 (s1.trans s2), kR.sub s1⟩
theorem dt_or (ha : PT X a (lt g en W t)) (hb : PW X (.BoolOp .Or (b :: rest) pos) (lt g en W u)) : PW X (.BoolOp .Or (a :: b :: rest) pos) (lt g en W (dtOr t u)) := by
  refine (pw_or ha hb).weak ?_
  rintro σ H Q ⟨F, st, P, R, rs, q, kP, kR⟩
  refine ⟨F, st, _, R, rs, q, fun b st1 F1 H1 t1 s1 rs1 => ?_, kR⟩
  cases b with
  | false =>
    simp only [Bool.false_eq_true, if_false] at t1 ⊢
    exact ⟨F1, st1, P, R, rs1, t1, fun b2 st2 F2 H2 t2 s2 => kP b2 st2 F2 H2 t2 (s1.trans s2), kR.sub s1⟩
  | true =>
    simp only [if_true] at t1 ⊢
    exact kP _ _ F1 H1 t1 s1 rs1
theorem dt_not (ha : PT X a (lt g en W t)) : PT X (.UnaryOp .Not a pos) (lt g en W (dtNot t)) := by
  refine (pt_not ha).weak ?_
  rintro σ H Q ⟨F, st, P, R, rs, q, kP, kR⟩
  exact ⟨F, st, _, R, rs, q, fun b st1 F1 H1 t1 s1 rs1 => kP _ _ F1 H1 t1 s1 rs1, kR⟩
end
end Dl

set_option maxHeartbeats 3900000
namespace Dl
open PySem
open PySem.Spec
open PyProof.Rows
open L2

/-! ### argument lists, displays -/
def dNil : DA := fun st P _ => P [] st
def dCons (ta : DE) (tr : DA) : DA := fun st P R => ta st (fun d st1 => tr st1 (fun ds st2 => P (d :: ds) st2) R) R
def dTup (t : DA) : DE := fun st P R => t st (fun ds st1 => ds.length ≤ sizeLine ∧ P (.tup ds) st1) R
def dLst (t : DA) : DE := fun st P R => t st (fun ds st1 => ds.length ≤ sizeLine ∧ P (.lst ds) st1) R
/-- a call of a known value -/
def rC (g : Gr) (en : En) (h : List D → Option D) : List V → Hp → VK → Prop := fun xs H Q => ∃ F σ st ds d, Rs g en F σ H st ∧ Reps g F ds xs ∧ h ds = some d ∧ ∀ v F' H', Sub F F' → Rs g en F' σ H' st → Rep g F' d v → Q v H'
abbrev CallD (X : Cx) (g : Gr) (en : En) (f : Value) (h : List D → Option D) : Prop := CallR X f (rC g en h)
def dCB (h : List D → Option D) (ta : DA) : DE := fun st P R => ta st (fun ds st1 => ∃ d, h ds = some d ∧ P d st1) R
section
variable {X : Cx} {g : Gr} {en : En} {W : WX} {a b e : Expr} {es : List Expr} {ta tb : DE} {t : DA} {pos p : Pos}
theorem da_nil : PA X [] (la g en W dNil) := by
  refine pa_nil.weak ?_
  rintro σ H Q ⟨F, st, P, R, rs, q, kP, kR⟩
  exact kP [] st [] F H q (Sub.refl _) rs (by simp only [Reps])
theorem da_cons (ha : PE X e (le g en W ta)) (hr : PA X es (la g en W t)) (hs : starEach (e :: es) X.env = (false, eval e X.env) :: starEach es X.env := by rfl) : PA X (e :: es) (la g en W (dCons ta t)) := by
  refine (pa_cons ha hr hs).weak ?_
  rintro σ H Q ⟨F, st, P, R, rs, q, kP, kR⟩
  refine ⟨F, st, _, R, rs, q, fun d1 st1 v1 F1 H1 t1 s1 rs1 r1 => ?_, kR⟩
  refine ⟨F1, st1, _, R, rs1, t1, fun ds st2 vs F2 H2 t2 s2 rs2 r2 => ?_, kR.sub s1⟩
  refine kP _ _ _ F2 H2 t2 (s1.trans s2) rs2 ?_
  simp only [Reps]
  exact ⟨v1, vs, rfl, r1.mono s2, r2⟩
theorem de_tup {x1} (h : PA X es (la g en W t)) : PE X (.Tuple es x1 pos) (le g en W (dTup t)) := by
  refine (pe_tup h).weak ?_
  rintro σ H Q ⟨F, st, P, R, rs, q, kP, kR⟩
  refine ⟨F, st, _, R, rs, q, fun ds st1 vs F1 H1 t1 s1 rs1 r1 => ?_, kR⟩
  exact ⟨by rw [r1.length]; exact t1.1, rs1.tup (F0 := F1) r1 fun v F2 H2 s2 rs2 r2 => kP _ _ v F2 H2 t1.2 (s1.trans s2) rs2 r2⟩
theorem de_lst (h : PA X es (la g en W t)) : PE X (.List es pos) (le g en W (dLst t)) := by
  refine (pe_lst h).weak ?_
  rintro σ H Q ⟨F, st, P, R, rs, q, kP, kR⟩
  refine ⟨F, st, _, R, rs, q, fun ds st1 vs F1 H1 t1 s1 rs1 r1 => ?_, kR⟩
  exact ⟨by rw [r1.length]; exact t1.1, rs1.lst r1 fun v F2 H2 s2 rs2 r2 => kP _ _ v F2 H2 t1.2 (s1.trans s2) rs2 r2⟩
theorem le_cb {h : List D → Option D} : ∀ σ H Q, le g en W (dCB h t) σ H Q → tCB (rC g en h) (la g en W t) σ H Q := by
  rintro σ H Q ⟨F, st, P, R, rs, q, kP, kR⟩
  refine ⟨F, st, _, R, rs, q, fun ds st1 vs F1 H1 t1 s1 rs1 r1 => ?_, kR⟩
  obtain ⟨d, e, p⟩ := t1
  exact ⟨F1, σ, st1, ds, d, rs1, r1, e, fun v F2 H2 s2 rs2 r2 => kP _ _ v F2 H2 p (s1.trans s2) rs2 r2⟩
theorem de_cb {id : String} {x : Str} {h : List D → Option D} (hc : CallD X g en (.builtin id) h) (hm : X.mg x = none) (hv : bootBuiltins x = some (.builtin id)) (ha : PA X (e :: es) (la g en W t)) (hg : Gl X x := by rfl) (hn : x ≠ "__name__" := by decide) (hdb : (x == ("__debug__" : Str)) = false := by decide)
    (he : starEach (e :: es) X.env = (false, eval e X.env) :: starEach es X.env := by rfl) (hpl : (backTo pos (starEach es X.env)).any (·.1) = false := by rfl) : PE X (.Call (.Name x p) (e :: es) [] pos) (le g en W (dCB h t)) := (pe_callB hc hg hm hv ha hn hdb he hpl).weak le_cb
theorem de_cty {T : String} {x : Str} {h : List D → Option D} (hc : CallD X g en (.type T) h) (hm : X.mg x = none) (hv : bootBuiltins x = some (.type T)) (ha : PA X (e :: es) (la g en W t)) (hg : Gl X x := by rfl) (hn : x ≠ "__name__" := by decide) (hdb : (x == ("__debug__" : Str)) = false := by decide)
    (he : starEach (e :: es) X.env = (false, eval e X.env) :: starEach es X.env := by rfl) (hpl : (backTo pos (starEach es X.env)).any (·.1) = false := by rfl) : PE X (.Call (.Name x p) (e :: es) [] pos) (le g en W (dCB h t)) := (pe_callTy hc hg hm hv ha hn hdb he hpl).weak le_cb

/-! ### items -/
def ixD : D → D → Option D
  | .tup xs, .int i => atI xs i
  | .lst xs, .int i => atI xs i
  | .str z, .int i => if z.length ≤ sizeLine then (atI z.cps.toList i).map fun c => .str ⟨#[c]⟩ else none
  | _, _ => none
theorem Reps.atI {F : Hp} {ds : List D} {vs : List V} {i : Int} {d : D} (h : Reps g F ds vs) (e : L2.atI ds i = some d) : ∃ v, L2.atI vs i = some v ∧ Rep g F d v := by
  unfold L2.atI at e ⊢
  rw [h.length]
  obtain ⟨j, e1, e2⟩ := Option.bind_eq_some_iff.mp e
  obtain ⟨v, e3, r⟩ := h.get e2
  exact ⟨v, by rw [e1]; exact e3, r⟩
theorem ix_D (o : On X g) : IxR X (rO g en ixD) := by
  rintro val sl pins s σ' H x y v u Q I rx ry ⟨F, σ, st, d1, d2, d, rs, r1, r2, e, k⟩ hsl
  unfold ixD at e
  split at e
  · simp only [Rep] at r1 r2
    obtain ⟨a, vs, rfl, q1, t1⟩ := r1
    obtain ⟨w, e3, r⟩ := t1.atI e
    exact ix_tup val sl pins s σ' H _ _ v u Q I rx ry ⟨a, vs, _, w, rfl, r2, by rw [o.K]; exact rs.w.sub.sqT q1, e3, k _ F H (Sub.refl _) rs r⟩ hsl
  · simp only [Rep] at r1 r2
    obtain ⟨a, vs, rfl, q1, t1⟩ := r1
    obtain ⟨w, e3, r⟩ := t1.atI e
    exact ix_list val sl pins s σ' H _ _ v u Q I rx ry ⟨a, vs, _, w, rfl, r2, .of (rs.w.sub _ _ q1), e3, k _ F H (Sub.refl _) rs r⟩ hsl
  · simp only [Rep] at r1 r2
    split at e
    · rename_i hz
      obtain ⟨c, e1, rfl⟩ := Option.map_eq_some_iff.mp e
      exact ix_str val sl pins s σ' H _ _ v u Q I rx ry ⟨_, _, c, r1, r2, hz, e1, k _ F H (Sub.refl _) rs (by simp only [Rep])⟩ hsl
    · cases e
  · cases e
theorem de_ix (o : On X g) (ha : PE X a (le g en W ta)) (hb : PE X b (le g en W tb)) (hs : PlainIx b := by exact fun _ _ => rfl) : PE X (.Subscript a b pos) (le g en W (dOp ixD ta tb)) := (pe_ix (ix_D o) ha hb hs).weak le_op

/-! ### built-in functions -/
def lenD : List D → Option D
  | [.lst xs] => some (.int xs.length)
  | [.tup xs] => some (.int xs.length)
  | [.str z] => if z.length ≤ sizeLine then some (.int z.length) else none
  | _ => none
def maxD2 : List D → Option D
  | [.int i, .int j] => some (.int (if j > i then j else i))
  | _ => none
def minI3 (a b c : Int) : Int := if c < (if b < a then b else a) then c else (if b < a then b else a)
def minD2 : List D → Option D
  | [.int i, .int j] => some (.int (if j < i then j else i))
  | [.int a, .int b, .int c] => some (.int (minI3 a b c))
  | _ => none
def absD : List D → Option D
  | [.int i] => some (.int (if i < 0 then -i else i))
  | _ => none
def intD : List D → Option D
  | [.int i] => some (.int i)
  | [.bl b] => some (.int (if b then 1 else 0))
  | _ => none
theorem call_lenD (o : On X g) : CallD X g en (.builtin "len") lenD := by
  rintro pins s σ' H xs us Q I r ⟨F, σ, st, ds, d, rs, rr, e, k⟩
  unfold lenD at e
  split at e
  · simp only [Reps, Rep] at rr
    cases e
    obtain ⟨v, _, rfl, ⟨a, vs, rfl, q1, t1⟩, rfl⟩ := rr
    refine call_len_seq pins s σ' H _ us Q I r ⟨a, vs, rfl, .inl (.of (rs.w.sub _ _ q1)), ?_⟩
    rw [t1.length]
    exact k _ F H (Sub.refl _) rs (by simp only [Rep])
  · simp only [Reps, Rep] at rr
    cases e
    obtain ⟨v, _, rfl, ⟨a, vs, rfl, q1, t1⟩, rfl⟩ := rr
    refine call_len_seq pins s σ' H _ us Q I r ⟨a, vs, rfl, .inr (by rw [o.K]; exact rs.w.sub.sqT q1), ?_⟩
    rw [t1.length]
    exact k _ F H (Sub.refl _) rs (by simp only [Rep])
  · simp only [Reps, Rep] at rr
    obtain ⟨v, _, rfl, rfl, rfl⟩ := rr
    split at e
    · rename_i hz
      cases e
      exact call_len_str pins s σ' H _ us Q I r ⟨_, rfl, hz, k _ F H (Sub.refl _) rs (by simp only [Rep])⟩
    · cases e
  · cases e
theorem call_maxD (o : On X g) : CallD X g en (.builtin "max") maxD2 := by
  rintro pins s σ' H xs us Q I r ⟨F, σ, st, ds, d, rs, rr, e, k⟩
  unfold maxD2 at e
  split at e
  · simp only [Reps, Rep] at rr
    cases e
    obtain ⟨v, _, rfl, rfl, v2, _, rfl, rfl, rfl⟩ := rr
    exact call_max2 o.calm pins s σ' H _ us Q I r ⟨_, _, rfl, k _ F H (Sub.refl _) rs (by simp only [Rep])⟩
  · cases e
theorem call_minD (o : On X g) : CallD X g en (.builtin "min") minD2 := by
  rintro pins s σ' H xs us Q I r ⟨F, σ, st, ds, d, rs, rr, e, k⟩
  unfold minD2 at e
  split at e
  · simp only [Reps, Rep] at rr
    cases e
    obtain ⟨v, _, rfl, rfl, v2, _, rfl, rfl, rfl⟩ := rr
    exact call_min2 o.calm pins s σ' H _ us Q I r ⟨_, _, rfl, k _ F H (Sub.refl _) rs (by simp only [Rep])⟩
  · simp only [Reps, Rep] at rr
    cases e
    rename_i a b c
    obtain ⟨v, _, rfl, rfl, v2, _, rfl, rfl, v3, _, rfl, rfl, rfl⟩ := rr
    cases r with
    | cons r1 r =>
      cases r with
      | cons r2 r =>
        cases r with
        | cons r3 r =>
          cases r
          obtain ⟨t1, rfl⟩ := r1
          obtain ⟨t2, rfl⟩ := r2
          obtain ⟨t3, rfl⟩ := r3
          refine min_three_ints (I.ok.hd o.calm) fun h' tk hk => ?_
          refine ⟨.int (minI3 a b c), H, I.kept hk, ?_, k _ F H (Sub.refl _) rs (by simp only [Rep])⟩
          unfold minI3
          by_cases h1 : b < a
          · simp only [h1, if_true]
            by_cases h2 : c < b
            · simp only [h2, if_true]; exact ⟨_, rfl⟩
            · simp only [h2, if_false]; exact ⟨_, rfl⟩
          · simp only [h1, if_false]
            by_cases h2 : c < a
            · simp only [h2, if_true]; exact ⟨_, rfl⟩
            · simp only [h2, if_false]; exact ⟨_, rfl⟩
  · cases e
theorem call_absD : CallD X g en (.builtin "abs") absD := by
  rintro pins s σ' H xs us Q I r ⟨F, σ, st, ds, d, rs, rr, e, k⟩
  unfold absD at e
  split at e
  · simp only [Reps, Rep] at rr
    cases e
    obtain ⟨v, _, rfl, rfl, rfl⟩ := rr
    exact call_abs pins s σ' H _ us Q I r ⟨_, rfl, k _ F H (Sub.refl _) rs (by simp only [Rep])⟩
  · cases e
theorem call_intD : CallD X g en (.type "int") intD := by
  rintro pins s σ' H xs us Q I r ⟨F, σ, st, ds, d, rs, rr, e, k⟩
  unfold intD at e
  split at e
  · simp only [Reps, Rep] at rr
    cases e
    obtain ⟨v, _, rfl, rfl, rfl⟩ := rr
    exact call_int1 pins s σ' H _ us Q I r (.inl ⟨_, rfl, k _ F H (Sub.refl _) rs (by simp only [Rep])⟩)
  · simp only [Reps, Rep] at rr
    cases e
    obtain ⟨v, _, rfl, rfl, rfl⟩ := rr
    exact call_int1 pins s σ' H _ us Q I r (.inr ⟨_, rfl, k _ F H (Sub.refl _) rs (by simp only [Rep])⟩)
  · cases e
end
end Dl

set_option maxHeartbeats 3900000
namespace Dl
open PySem
open PySem.Spec
open PyProof.Rows
open L2

/-! ### what a def promises -/
/-- from the arguments and the draws left: the value, the draws left then; or an error -/
abbrev DSp := List D → Nat → (D → Nat → Prop) → (X → Nat → Prop) → Prop
def lsp (g : Gr) (sp : DSp) : Sp := fun vs H Q E => ∃ F ds n P R, Wd g F H n ∧ Reps g F ds vs ∧ sp ds n P R ∧
  (∀ d n' v F' H', P d n' → Sub F F' → Wd g F' H' n' → Keep g H H' → (∀ a, Nw H' a → Nw H a) → (∀ a o, F' a = some o → F a = some o ∨ Nw H a) → Rep g F' d v → Q v H') ∧
  (∀ x n' cls dd F' H', R x n' → Sub F F' → Wd g F' H' n' → Keep g H H' → (∀ a, Nw H' a → Nw H a) → (∀ a o, F' a = some o → F a = some o ∨ Nw H a) → RepX g F' H' x cls dd → E cls dd H')
def dCall (sp : DSp) (ta : DA) : DE := fun st P R => ta st (fun ds st1 => sp ds st1.n (fun d n => P d ⟨st1.e, n⟩) (fun x n => R x ⟨st1.e, n⟩)) R
/-- arguments put in the parameters' order, defaults among them -/
def dArr (f : List D → List D) (ta : DA) : DA := fun st P R => ta st (fun ds st1 => P (f ds) st1) R
section
variable {X : Cx} {g : Gr} {en : En} {W : WX} {e : Expr} {es : List Expr} {t : DA} {pos p : Pos} {x : Str} {sp : DSp} {k : Nat} {f : Addr} {fd : FuncData} {ps : List Str}
theorem lsp_call {F H : Hp} {σ : L2.St} {st : DS} {ds : List D} {vs : List V} {Q : VK} {P : D → DS → Prop} {R : Dl.X → DS → Prop} (rs : Rs g en F σ H st) (r : Reps g F ds vs)
    (h : sp ds st.n (fun d n => P d ⟨st.e, n⟩) (fun x n => R x ⟨st.e, n⟩)) (kP : ∀ d st' v F' H', P d st' → Sub F F' → Rs g en F' σ H' st' → Rep g F' d v → Q v H') (kR : XF g en W R F) : lsp g sp vs H Q (fun cls dd H' => W cls dd σ H') := by
  refine ⟨F, ds, st.n, _, _, rs.w, r, h, fun d n' v F' H' p s w kp dm nw rr => ?_, fun x n' cls dd F' H' p s w kp dm nw rr => ?_⟩
  · exact kP d _ v F' H' p s (rs.called w kp dm s nw) rr
  · exact kR x _ cls dd σ F' H' p s (rs.called w kp dm s nw) rr
theorem de_call (F : FnOk X.prog X.w X.K X.mg X.base (L2.CX X.prog X.w) k f fd ps (lsp g sp)) (tk : Takes X W) (hr : Room k X.A) (hm : X.mg x = some (.ref f)) (hk : PySem.W.keepIn X.K (.ref f) = true) (hb : Binds X.K fd ps [])
    (ha : PA X (e :: es) (la g en W t)) (hg : Gl X x := by rfl) (hdb : (x == ("__debug__" : Str)) = false := by decide) (he : starEach (e :: es) X.env = (false, eval e X.env) :: starEach es X.env := by rfl) (hpl : (backTo pos (starEach es X.env)).any (·.1) = false := by rfl) :
    PE X (.Call (.Name x p) (e :: es) [] pos) (le g en W (dCall sp t)) := by
  refine (pe_callS F hr hg hm hk hb (fun σ => passAt tk σ) ha hdb he hpl).weak ?_
  rintro σ H Q ⟨F, st, P, R, rs, q, kP, kR⟩
  refine ⟨F, st, _, R, rs, q, fun ds st1 vs F1 H1 t1 s1 rs1 r1 => ?_, kR⟩
  exact lsp_call rs1 r1 t1 (fun d st2 v F2 H2 p s2 => kP d st2 v F2 H2 p (s1.trans s2)) (kR.sub s1)
end

/-! ### statements -/
def dsNext : DB := fun st E => E.nx st
def dsSeq (t u : DB) : DB := fun st E => t st { E with nx := fun st' => u st' E }
def dsDrop (t : DE) : DB := fun st E => t st (fun _ st' => E.nx st') E.ex
def dsRet (t : DE) : DB := fun st E => t st (fun d st' => E.rt d st') E.ex
def dsRetN : DB := fun st E => E.rt .non st
def dsIf (c : DT) (t u : DB) : DB := fun st E => c st (fun b st' => if b = true then t st' E else u st' E) E.ex
def dsBreak : DB := fun st E => E.bk st
def dsCont : DB := fun st E => E.ct st
def dsNever : DB := fun _ _ => False
section
variable {X : Cx} {g : Gr} {en : En} {W : WX} {e c : Expr} {s : Stmt} {rest a b : List Stmt} {te : DE} {t u : DB} {tc : DT} {pos : Pos}
theorem ds_next {σ : L2.St} {H : Hp} {D : Ends} : ls g en W dsNext D σ H → tNext D σ H := by
  rintro ⟨F, st, E, rs, q, k⟩
  exact k.nx st σ F H q (Sub.refl _) rs
theorem dss_nil : PSs X [] (ls g en W dsNext) := pss_nil.weak fun _ _ _ h => ds_next h
theorem dss_cons (h1 : PS X s (ls g en W t)) (h2 : PSs X rest (ls g en W u)) : PSs X (s :: rest) (ls g en W (dsSeq t u)) := by
  refine (pss_cons h1 h2).weak ?_
  rintro D σ H ⟨F, st, E, rs, q, k⟩
  exact ⟨F, st, _, rs, q, fun st' σ' F' H' n s rs' => ⟨F', st', E, rs', n, k.sub s⟩, k.bk, k.ct, k.rt, k.ex⟩
theorem dss_one (h1 : PS X s (ls g en W t)) : PSs X [s] (ls g en W t) := pss_one h1
theorem ds_pass : PS X (.Pass pos) (ls g en W dsNext) := ps_pass.weak fun _ _ _ h => ds_next h
theorem ds_break : PS X (.Break pos) (ls g en W dsBreak) := by
  refine ps_break.weak ?_
  rintro D σ H ⟨F, st, E, rs, q, k⟩
  exact k.bk st σ F H q (Sub.refl _) rs
theorem ds_cont : PS X (.Continue pos) (ls g en W dsCont) := by
  refine ps_continue.weak ?_
  rintro D σ H ⟨F, st, E, rs, q, k⟩
  exact k.ct st σ F H q (Sub.refl _) rs
theorem ds_never : PS X s (ls g en W dsNever) := by
  refine ps_never.weak ?_
  rintro D σ H ⟨F, st, E, rs, q, _⟩
  exact q
theorem ds_expr (he : PE X e (le g en W te)) (hs : swapsWith e none pos.line X.env = pure false := by rfl) : PS X (.Expr e pos) (ls g en W (dsDrop te)) := by
  refine (ps_expr he hs).weak ?_
  rintro D σ H ⟨F, st, E, rs, q, k⟩
  exact ⟨F, st, _, E.ex, rs, q, fun d st1 v F1 H1 t1 s1 rs1 r1 => k.nx _ _ _ _ t1 s1 rs1, k.ex⟩
theorem ds_ret (he : PE X e (le g en W te)) : PS X (.Return (some e) pos) (ls g en W (dsRet te)) := by
  refine (ps_ret he).weak ?_
  rintro D σ H ⟨F, st, E, rs, q, k⟩
  exact ⟨F, st, _, E.ex, rs, q, fun d st1 v F1 H1 t1 s1 rs1 r1 => k.rt _ _ _ _ _ _ t1 s1 rs1 r1, k.ex⟩
theorem ds_retN : PS X (.Return none pos) (ls g en W dsRetN) := by
  refine ps_retN.weak ?_
  rintro D σ H ⟨F, st, E, rs, q, k⟩
  exact k.rt .non st .non σ F H q (Sub.refl _) rs (by simp only [Rep])
theorem ds_if (hc : PT X c (lt g en W tc)) (ha : PSs X a (ls g en W t)) (hb : PSs X b (ls g en W u)) : PS X (.If c a b pos) (ls g en W (dsIf tc t u)) := by
  refine (ps_if hc ha hb).weak ?_
  rintro D σ H ⟨F, st, E, rs, q, k⟩
  refine ⟨F, st, _, E.ex, rs, q, fun d st1 F1 H1 t1 s1 rs1 => ?_, k.ex⟩
  cases d with
  | true =>
    simp only [if_true] at t1 ⊢
    exact ⟨F1, st1, E, rs1, t1, k.sub s1⟩
  | false =>
    simp only [Bool.false_eq_true, if_false] at t1 ⊢
    exact ⟨F1, st1, E, rs1, t1, k.sub s1⟩
end

/-! ### targets -/
abbrev DG := D → DS → (DS → Prop) → Prop
/-- a target's reading on data -/
def lg (g : Gr) (en : En) (t : DG) : TG := fun v σ H Q => ∃ F st d P, Rs g en F σ H st ∧ Rep g F d v ∧ t d st P ∧ ∀ st' σ' F' H', P st' → Sub F F' → Rs g en F' σ' H' st' → Q σ' H'
def gVar (i : Nat) : DG := fun d st P => P (st.set i (.fz d))
theorem Rs.store {g : Gr} {en : En} {F H : Hp} {σ : L2.St} {st : DS} {d : D} {v : V} (h : Rs g en F σ H st) (r : Rep g F d v) (i : Nat) : Rs g en F (σ.set i (some v)) H (st.set i (.fz d)) := by
  have len : (st.e.set i (.fz d)).length = (σ.set i (some v)).length := by rw [List.length_set, List.length_set]; exact h.len
  refine ⟨h.w, h.es, h.cel0, h.old, h.dom, h.new, len, fun j d' q => ?_, fun j es q => ?_, fun j k es fs m hjk q1 q2 q3 => ?_, fun q hq => ?_⟩
  · have q' : (st.e.set i (.fz d))[j]? = some (.fz d') := q
    by_cases z : j = i
    · subst z
      have hj : j < st.e.length := by
        have := (List.getElem?_eq_some_iff.mp q').1
        rwa [List.length_set] at this
      rw [List.getElem?_set_self hj] at q'
      cases q'
      exact ⟨v, List.getElem?_set_self (by rw [← h.len]; exact hj), r⟩
    · rw [List.getElem?_set_ne (Ne.symm z)] at q'
      rw [List.getElem?_set_ne (Ne.symm z)]
      exact h.fz j d' q'
  · have q' : (st.e.set i (.fz d))[j]? = some (.ol es) := q
    by_cases z : j = i
    · subst z
      have hj : j < st.e.length := by
        have := (List.getElem?_eq_some_iff.mp q').1
        rwa [List.length_set] at this
      rw [List.getElem?_set_self hj] at q'
      cases q'
    · rw [List.getElem?_set_ne (Ne.symm z)] at q'
      rw [List.getElem?_set_ne (Ne.symm z)]
      exact h.ol j es q'
  · have q1' : (st.e.set i (.fz d))[j]? = some (.ol es) := q1
    have q2' : (st.e.set i (.fz d))[k]? = some (.ol fs) := q2
    have out : ∀ {j : Nat} {es : List D}, (st.e.set i (.fz d))[j]? = some (.ol es) → j ≠ i ∧ st.e[j]? = some (.ol es) := fun {j es} q' => by
      by_cases z : j = i
      · subst z
        have hj : j < st.e.length := by
          have := (List.getElem?_eq_some_iff.mp q').1
          rwa [List.length_set] at this
        rw [List.getElem?_set_self hj] at q'
        cases q'
      · rw [List.getElem?_set_ne (Ne.symm z)] at q'
        exact ⟨z, q'⟩
    obtain ⟨zj, pj⟩ := out q1'
    obtain ⟨zk, pk⟩ := out q2'
    rw [List.getElem?_set_ne (Ne.symm zj)] at q3
    rw [List.getElem?_set_ne (Ne.symm zk)]
    exact h.ap j k es fs m hjk pj pk q3
  · obtain ⟨g1, g2, g3, g4⟩ := h.gk q hq
    refine ⟨g1, g2, g3, fun j es q5 => ?_⟩
    have q5' : (st.e.set i (.fz d))[j]? = some (.ol es) := q5
    by_cases zj : j = i
    · subst zj
      have hj : j < st.e.length := by
        have := (List.getElem?_eq_some_iff.mp q5').1
        rwa [List.length_set] at this
      rw [List.getElem?_set_self hj] at q5'
      cases q5'
    · rw [List.getElem?_set_ne (Ne.symm zj)] at q5'
      rw [List.getElem?_set_ne (Ne.symm zj)]
      exact g4 j es q5'
/-- name = e -/
def dsSet (i : Nat) (t : DE) : DB := fun st E => t st (fun d st' => E.nx (st'.set i (.fz d))) E.ex
/-- several targets -/
abbrev DGs := List D → DS → (DS → Prop) → Prop
def lgs (g : Gr) (en : En) (t : DGs) : TGs := fun vs σ H Q => ∃ F st ds P, Rs g en F σ H st ∧ Reps g F ds vs ∧ t ds st P ∧ ∀ st' σ' F' H', P st' → Sub F F' → Rs g en F' σ' H' st' → Q σ' H'
end Dl

set_option maxHeartbeats 3900000
namespace Dl
open PySem
open PySem.Spec
open PyProof.Rows
open L2

/-! ### lists of one's own -/
section
variable {g : Gr} {en : En} {W : WX} {F F' H H' : Hp} {σ : L2.St} {st : DS} {p l : Addr} {o : HO} {ds : List D} {vs : List V}
/-- slots by one change -/
theorem set_get {e : List Sl} {i j : Nat} {s q : Sl} (h : (e.set i s)[j]? = some q) : (j = i ∧ i < e.length ∧ q = s) ∨ (j ≠ i ∧ e[j]? = some q) := by
  by_cases z : j = i
  · subst z
    have hj : j < e.length := by
      have := (List.getElem?_eq_some_iff.mp h).1
      rwa [List.length_set] at this
    rw [List.getElem?_set_self hj] at h
    exact .inl ⟨rfl, hj, (Option.some.inj h).symm⟩
  · rw [List.getElem?_set_ne (Ne.symm z)] at h
    exact .inr ⟨z, h⟩
theorem Nw.ne {H : Hp} {a b : Addr} {o : HO} (n : Nw H a) (e : H b = some o) (h : ∀ ps, o ≠ .tbl ps) : b ≠ a := fun z => by
  rw [z] at e
  obtain ⟨ps, y⟩ := n _ e
  exact h ps y
theorem _root_.LamX.Tabs.upd {T : List (Addr × Str)} {H : Hp} {l : Addr} {vs ws : List V} (t : LamX.Tabs T H) (e : H l = some (.lst vs)) : LamX.Tabs T (L2.upd H l (.lst ws)) := fun p hp => by
  obtain ⟨ps, h1, h2, h3⟩ := t p hp
  refine ⟨ps, ?_, h2, fun pos cv hc => ?_⟩
  · rw [upd_ne fun z => by rw [z, e] at h1; cases h1]; exact h1
  · obtain ⟨c, e1, e2⟩ := h3 pos cv hc
    refine ⟨c, e1, ?_⟩
    rw [upd_ne fun z => by rw [z, e] at e2; exact absurd (Option.some.inj e2) (by unfold LamX.CodeO; intro y; cases y)]
    exact e2
/-- what makes a slot of one's own stand -/
structure Own (g : Gr) (en : En) (F H : Hp) (l : Addr) (ds : List D) (vs : List V) : Prop where
  at_ : H l = some (.lst vs)
  rep : Reps g F ds vs
  fr : F l = none
  e0 : Nw en.H l
  np : l ≠ g.p
/-- no slot, no list aside stands for it -/
def NA (en : En) (st : DS) (σ : L2.St) (l : Addr) : Prop := (∀ (j : Nat) es, st.e[j]? = some (.ol es) → σ[j]? ≠ some (some (.ref l))) ∧ ∀ q ∈ en.gh, q.1 ≠ l
theorem Rs.own {i : Nat} (h : Rs g en F σ H st) (e : st.e[i]? = some (.ol ds)) : ∃ l vs, σ[i]? = some (some (.ref l)) ∧ Own g en F H l ds vs := by
  obtain ⟨l, vs, e1, e2, r, e3, e4, e5⟩ := h.ol i ds e
  exact ⟨l, vs, e1, e2, r, e3, e4, e5⟩
theorem Cells.of0 (h : Cells g en.H) (k : Keep g en.H H) : Cells g H := by
  obtain ⟨q, n, z⟩ := h
  refine ⟨?_, n, z⟩
  rcases q with (q | ⟨o, q⟩) | q
  · exact .inl (.inl (k _ _ q (fun ps z => by cases z) n))
  · exact .inl (.inr ⟨o, k _ _ q (fun ps z => by cases z) n⟩)
  · exact .inr q
/-- a new list that is not frozen -/
theorem Rs.laidO (h : Rs g en F σ H st) (q : H p = none) (ho : ∀ ps, o ≠ .tbl ps) : Rs g en F σ (upd H p o) st := by
  have hp := h.w.pen.ne q
  have sH : Sub H (upd H p o) := Sub.new q
  have kp : Keep g en.H (upd H p o) := fun b u e n m => sH _ _ (h.old b u e n m)
  refine ⟨⟨fun a u e => sH _ _ (h.w.sub a u e), h.w.ntb, h.w.npen, ?_, h.w.cel.sub sH, h.w.tab.ext sH⟩, h.es, h.cel0, kp, fun a e => ?_, h.new, h.len, h.fz, fun i es e => ?_, h.ap, fun q hq => ?_⟩
  · obtain ⟨x, r, e, k⟩ := h.w.pen
    exact ⟨x, r, by rw [upd_ne hp.symm]; exact e, k⟩
  · by_cases z : a = p
    · subst z
      obtain ⟨ps, y⟩ := e o upd_same
      exact absurd y (ho ps)
    · exact h.dom _ fun u y => e u (by rw [upd_ne z]; exact y)
  · obtain ⟨l, ws, e1, e2, r, e3, e4, e5⟩ := h.ol i es e
    exact ⟨l, ws, e1, sH _ _ e2, r, e3, e4, e5⟩
  · obtain ⟨g1, g2, g3, g4⟩ := h.gk q hq
    exact ⟨sH _ _ g1, g2, g3, g4⟩
/-- it is frozen -/
theorem Rs.freezeL (h : Rs g en F σ H st) (w : Own g en F H l ds vs) (na : NA en st σ l) :
    Sub F (upd F l (.lst vs)) ∧ Rs g en (upd F l (.lst vs)) σ H st ∧ Rep g (upd F l (.lst vs)) (.lst ds) (.ref l) := by
  have sF : Sub F (upd F l (.lst vs)) := Sub.new w.fr
  refine ⟨sF, ⟨⟨fun a u q => ?_, fun a ps q => ?_, ?_, h.w.pen, h.w.cel, h.w.tab⟩, h.es.trans sF, h.cel0, h.old, h.dom, fun a o q => ?_, h.len, fun j d q => ?_, fun j es q => ?_, h.ap, fun q hq => ?_⟩, ?_⟩
  · by_cases z : a = l
    · subst z; rw [upd_same] at q; rw [← q]; exact w.at_
    · rw [upd_ne z] at q; exact h.w.sub _ _ q
  · by_cases z : a = l
    · subst z; rw [upd_same] at q; cases q
    · rw [upd_ne z] at q; exact h.w.ntb _ _ q
  · rw [upd_ne (Ne.symm w.np)]; exact h.w.npen
  · by_cases z : a = l
    · subst z; exact .inr w.e0
    · rw [upd_ne z] at q; exact h.new _ _ q
  · obtain ⟨v, p1, p2⟩ := h.fz j d q
    exact ⟨v, p1, p2.mono sF⟩
  · obtain ⟨l', vs', p1, p2, p3, p4, p5, p6⟩ := h.ol j es q
    have nl : l' ≠ l := fun z => na.1 j es q (by rw [← z]; exact p1)
    exact ⟨l', vs', p1, p2, Reps.mono sF p3, by rw [upd_ne nl]; exact p4, p5, p6⟩
  · obtain ⟨g1, g2, g3, g4⟩ := h.gk q hq
    exact ⟨g1, by rw [upd_ne (na.2 q hq)]; exact g2, g3, g4⟩
  · simp only [Rep]
    exact ⟨l, vs, rfl, upd_same, w.rep.mono sF⟩
/-- a name is bound to it -/
theorem Rs.storeO (h : Rs g en F σ H st) (w : Own g en F H l ds vs) (na : NA en st σ l) (i : Nat) : Rs g en F (σ.set i (some (.ref l))) H (st.set i (.ol ds)) := by
  have len : (st.e.set i (.ol ds)).length = (σ.set i (some (.ref l))).length := by rw [List.length_set, List.length_set]; exact h.len
  refine ⟨h.w, h.es, h.cel0, h.old, h.dom, h.new, len, fun j d q => ?_, fun j es q => ?_, fun j k es fs m hjk q1 q2 q3 q4 => ?_, fun q hq => ?_⟩
  · rcases set_get q with ⟨z, hi, e⟩ | ⟨z, e⟩
    · cases e
    · rw [List.getElem?_set_ne (Ne.symm z)]
      exact h.fz j d e
  · rcases set_get q with ⟨z, hi, e⟩ | ⟨z, e⟩
    · cases e
      subst z
      exact ⟨l, vs, List.getElem?_set_self (by rw [← h.len]; exact hi), w.at_, w.rep, w.fr, w.e0, w.np⟩
    · rw [List.getElem?_set_ne (Ne.symm z)]
      exact h.ol j es e
  · have hset : ∀ {t : Nat} (hi : i < st.e.length), t = i → (σ.set i (some (V.ref l)))[t]? = some (some (.ref l)) := fun {t} hi z => by
      subst z
      exact List.getElem?_set_self (by rw [← h.len]; exact hi)
    rcases set_get q1 with ⟨zj, hi, e1⟩ | ⟨zj, e1⟩ <;> rcases set_get q2 with ⟨zk, hi2, e2⟩ | ⟨zk, e2⟩
    · exact hjk (zj.trans zk.symm)
    · rw [hset hi zj] at q3
      rw [List.getElem?_set_ne (Ne.symm zk)] at q4
      cases q3
      exact na.1 k fs e2 q4
    · rw [hset hi2 zk] at q4
      rw [List.getElem?_set_ne (Ne.symm zj)] at q3
      cases q4
      exact na.1 j es e1 q3
    · rw [List.getElem?_set_ne (Ne.symm zj)] at q3
      rw [List.getElem?_set_ne (Ne.symm zk)] at q4
      exact h.ap j k es fs m hjk e1 e2 q3 q4
  · obtain ⟨g1, g2, g3, g4⟩ := h.gk q hq
    refine ⟨g1, g2, g3, fun j es q5 => ?_⟩
    rcases set_get q5 with ⟨z, hi, e⟩ | ⟨z, e⟩
    · subst z
      rw [List.getElem?_set_self (by rw [← h.len]; exact hi)]
      exact fun y => na.2 q hq (by cases y; rfl)
    · rw [List.getElem?_set_ne (Ne.symm z)]
      exact g4 j es e
/-- it is changed in place -/
theorem Rs.mutO {i : Nat} {ds' : List D} {vs' : List V} (h : Rs g en F σ H st) (e : st.e[i]? = some (.ol ds)) (hl : σ[i]? = some (some (.ref l))) (w : Own g en F H l ds vs) (r : Reps g F ds' vs') : Rs g en F σ (upd H l (.lst vs')) (st.set i (.ol ds')) := by
  have kp : Keep g en.H (upd H l (.lst vs')) := fun b u q n m => by
    rw [upd_ne (w.e0.ne q n)]
    exact h.old b u q n m
  have hi : i < st.e.length := (List.getElem?_eq_some_iff.mp e).1
  refine ⟨⟨fun a u q => ?_, h.w.ntb, h.w.npen, ?_, h.cel0.of0 kp, h.w.tab.upd w.at_⟩, h.es, h.cel0, kp, fun a q => ?_, h.new, ?_, fun j d q => ?_, fun j es q => ?_, fun j k es fs m hjk q1 q2 q3 => ?_, fun q hq => ?_⟩
  · have z : a ≠ l := fun z => by rw [z, w.fr] at q; cases q
    rw [upd_ne z]
    exact h.w.sub _ _ q
  · obtain ⟨x, r, e, k⟩ := h.w.pen
    exact ⟨x, r, by rw [upd_ne (Ne.symm w.np)]; exact e, k⟩
  · by_cases z : a = l
    · subst z; exact w.e0
    · exact h.dom _ fun u y => q u (by rw [upd_ne z]; exact y)
  · show (st.e.set i _).length = _
    rw [List.length_set]; exact h.len
  · rcases set_get q with ⟨z, hi, e⟩ | ⟨z, e⟩
    · cases e
    · exact h.fz j d e
  · rcases set_get q with ⟨z, hi, e2⟩ | ⟨z, e2⟩
    · cases e2
      subst z
      exact ⟨l, vs', hl, upd_same, r, w.fr, w.e0, w.np⟩
    · obtain ⟨l', ws, p1, p2, p3, p4, p5, p6⟩ := h.ol j es e2
      have nl : l' ≠ l := fun y => h.ap i j ds es l (Ne.symm z) e e2 hl (by rw [← y]; exact p1)
      exact ⟨l', ws, p1, by rw [upd_ne nl]; exact p2, p3, p4, p5, p6⟩
  · have back : ∀ {j : Nat} {es : List D}, (st.e.set i (.ol ds'))[j]? = some (.ol es) → ∃ fs, st.e[j]? = some (.ol fs) := fun {j es} q => by
      rcases set_get q with ⟨z, hi, e2⟩ | ⟨z, e2⟩
      · subst z; exact ⟨_, e⟩
      · exact ⟨_, e2⟩
    obtain ⟨_, b1⟩ := back q1
    obtain ⟨_, b2⟩ := back q2
    exact h.ap j k _ _ m hjk b1 b2 q3
  · obtain ⟨g1, g2, g3, g4⟩ := h.gk q hq
    have z : q.1 ≠ l := fun w => g4 i ds e (by rw [w]; exact hl)
    refine ⟨by rw [upd_ne z]; exact g1, g2, g3, fun j es q5 => ?_⟩
    rcases set_get q5 with ⟨y, _, _⟩ | ⟨y, e2⟩
    · rw [y]; exact g4 i ds e
    · exact g4 j es e2
end
/-- a new list, one's own -/
def ll (g : Gr) (en : En) (W : WX) (t : DA) : TE := fun σ H Q => ∃ F st P R, Rs g en F σ H st ∧ t st P R ∧ (∀ ds st' l vs F' H', P ds st' → Sub F F' → Rs g en F' σ H' st' → Own g en F' H' l ds vs → NA en st' σ l → Q (.ref l) H') ∧ XF g en W R F
def dFz (t : DA) : DE := fun st P R => t st (fun ds st' => P (.lst ds) st') R
/-- within the largest size -/
def dSz (t : DA) : DA := fun st P R => t st (fun ds st1 => ds.length ≤ sizeLine ∧ P ds st1) R
def dsSetL (i : Nat) (t : DA) : DB := fun st E => t st (fun ds st' => E.nx (st'.set i (.ol ds))) E.ex
section
variable {X : Cx} {g : Gr} {en : En} {W : WX} {e : Expr} {es : List Expr} {t : DA} {te : DE} {pos : Pos}
theorem le_ll : ∀ σ H Q, le g en W (dFz t) σ H Q → ll g en W t σ H Q := by
  rintro σ H Q ⟨F, st, P, R, rs, q, kP, kR⟩
  refine ⟨F, st, _, R, rs, q, fun ds st' l vs F' H' p s rs' w na => ?_, kR⟩
  obtain ⟨s2, rs2, r2⟩ := rs'.freezeL w na
  exact kP _ _ _ _ H' p (s.trans s2) rs2 r2
theorem de_ofL (h : PE X e (ll g en W t)) : PE X e (le g en W (dFz t)) := h.weak le_ll
theorem Rs.newO {F H : Hp} {σ : L2.St} {st : DS} {ds : List D} {vs : List V} {p : Addr} (h : Rs g en F σ H st) (r : Reps g F ds vs) (hp : H p = none) :
    Rs g en F σ (upd H p (.lst vs)) st ∧ Own g en F (upd H p (.lst vs)) p ds vs ∧ NA en st σ p := by
  have hF : F p = none := by
    cases e : F p with
    | none => rfl
    | some u => rw [h.w.sub _ _ e] at hp; cases hp
  refine ⟨h.laidO hp (fun ps z => by cases z), ⟨upd_same, r, hF, h.dom _ (.of hp), h.w.pen.ne hp⟩, fun j es e q => ?_, fun q hq z => ?_⟩
  · obtain ⟨l, ws, e1, e2, _⟩ := h.ol j es e
    rw [e1] at q
    cases q
    rw [e2] at hp
    cases hp
  · have y := (h.gk q hq).1
    rw [z, hp] at y
    cases y
theorem dl_lst (h : PA X es (la g en W t)) : PE X (.List es pos) (ll g en W (dSz t)) := by
  refine (pe_lst h).weak ?_
  rintro σ H Q ⟨F, st, P, R, rs, q, kP, kR⟩
  refine ⟨F, st, _, R, rs, q, fun ds st1 vs F1 H1 t1 s1 rs1 r1 => ?_, kR⟩
  refine ⟨by rw [r1.length]; exact t1.1, fun p hp => ?_⟩
  obtain ⟨rs2, w, na⟩ := rs1.newO r1 hp
  exact kP _ _ _ _ F1 _ t1.2 s1 rs2 w na
theorem ds_setL {i : Nat} {x : Str} {pos' : Pos} (hN : X.N.Nodup) (he : PE X e (ll g en W t)) (hi : X.N[i]? = some x := by rfl) (hx : Loc X.env.scope x := by first | exact Or.inl rfl | exact Or.inr rfl) (hs : swapsWith e (some (.Name x pos')) pos.line X.env = pure false := by rfl)
    (hf : X.fn x = true ∨ X.env.scope.names.lookup x = some .local := by first | exact .inl rfl | exact .inr rfl | assumption) : PS X (.Assign [.Name x pos'] e pos) (ls g en W (dsSetL i t)) := by
  refine (ps_set (i := i) hN hi hx he hs hf).weak ?_
  rintro D σ H ⟨F, st, E, rs, q, k⟩
  exact ⟨F, st, _, E.ex, rs, q, fun ds st1 l vs F1 H1 t1 s1 rs1 w na => k.nx _ _ _ _ t1 s1 (rs1.storeO w na i), k.ex⟩
theorem ds_set {i : Nat} {x : Str} {pos' : Pos} (hN : X.N.Nodup) (he : PE X e (le g en W te)) (hi : X.N[i]? = some x := by rfl) (hx : Loc X.env.scope x := by first | exact Or.inl rfl | exact Or.inr rfl) (hs : swapsWith e (some (.Name x pos')) pos.line X.env = pure false := by rfl)
    (hf : X.fn x = true ∨ X.env.scope.names.lookup x = some .local := by first | exact .inl rfl | exact .inr rfl | assumption) : PS X (.Assign [.Name x pos'] e pos) (ls g en W (dsSet i te)) := by
  refine (ps_set (i := i) hN hi hx he hs hf).weak ?_
  rintro D σ H ⟨F, st, E, rs, q, k⟩
  exact ⟨F, st, _, E.ex, rs, q, fun d st1 v F1 H1 t1 s1 rs1 r1 => k.nx _ _ _ _ t1 s1 (rs1.store r1 i), k.ex⟩
/-- xs.append(e) -/
def dApp (i : Nat) (te : DE) : DE := fun st P R => (∃ ds, st.e[i]? = some (.ol ds)) ∧ te st (fun d st' => ∃ ds, st'.e[i]? = some (.ol ds) ∧ ds.length < sizeLine ∧ P .non (st'.set i (.ol (ds ++ [d])))) R
theorem de_app {i : Nat} {x : Str} {p p2 : Pos} (o : On X g) (he : PE X e (le g en W te)) (hN : X.N[i]? = some x := by rfl) (hv : Vis X.env.scope x := by first | exact Or.inl rfl | exact Or.inr (Or.inl rfl) | exact Or.inr (Or.inr rfl)) (hd : (x == ("__debug__" : Str)) = false := by decide)
    (hcd : (x == ("__classdict__" : Str)) = false := by decide) (hs : starEach [e] X.env = (false, eval e X.env) :: starEach [] X.env := by rfl) (hline : (p2.endLine == pos.line) = true := by rfl)
    (hfew : ((backTo pos (starEach [e] X.env)).all (fun x => !x.1) && (backToKw pos (keywordEach [] X.env)).all (fun x => x.1.isSome) && decide ([e].length + ([] : List Keyword).length + (if ([] : List Keyword).isEmpty then 0 else 1) < 30)) = true := by rfl) : PE X (.Call (.Attribute (.Name x p) "append" p2) [e] [] pos) (le g en W (dApp i te)) := by
  have ht : PE X (.Call (.Attribute (.Name x p) "append" p2) [e] [] pos) (tBM X.K "list" rAppend (tVar i) (tCons (le g en W te) tNil)) :=
    pe_bm PySem.F.plainAttrs_list PySem.F.slot_list_append PySem.F.type_list_append mt_append (pe_var hN hv hd hcd) (pa_cons he pa_nil hs) rfl hfew hline hs rfl
  refine ht.weak ?_
  rintro σ H Q ⟨F, st, P, R, rs, ⟨⟨ds, e0⟩, q⟩, kP, kR⟩
  obtain ⟨l, vs, e1, w⟩ := rs.own e0
  refine ⟨_, e1, .inl ⟨rfl, _, .of w.at_⟩, ?_⟩
  refine ⟨F, st, _, R, rs, q, fun d st1 v F1 H1 t1 s1 rs1 r1 => ?_, kR⟩
  obtain ⟨ds1, e2, hz, p⟩ := t1
  obtain ⟨l1, vs1, e3, w1⟩ := rs1.own e2
  rw [e1] at e3
  cases e3
  refine ⟨l, vs1, v, rfl, rfl, w1.at_, by rw [w1.rep.length]; exact hz, ?_⟩
  refine kP _ _ _ F1 _ p s1 (rs1.mutO e2 e1 w1 (w1.rep.append ?_)) (by simp only [Rep])
  simp only [Reps]
  exact ⟨v, [], rfl, r1, rfl⟩
end
end Dl

set_option maxHeartbeats 3900000
namespace Dl
open PySem
open PySem.Spec
open PyProof.Rows
open L2

theorem _root_.L2.PG.weak {X : Cx} {e : Expr} {t t' : TG} (h : PG X e t) (w : ∀ v σ H Q, t' v σ H Q → t v σ H Q) : PG X e t' := ⟨fun pins s σ H v u Q I r q => h.run pins s σ H v u Q I r (w v σ H Q q)⟩
theorem _root_.L2.PGs.weak {X : Cx} {e : List Expr} {t t' : TGs} (h : PGs X e t) (w : ∀ v σ H Q, t' v σ H Q → t v σ H Q) : PGs X e t' := ⟨fun pins s σ H v u Q I r q => h.run pins s σ H v u Q I r (w v σ H Q q)⟩
theorem _root_.L2.PI.weak {X : Cx} {tg e : Expr} {t t' : TI} (h : PI X tg e t) (w : ∀ σ H Q, t' σ H Q → t σ H Q) : PI X tg e t' := ⟨fun pins s σ H Q I q => h.run pins s σ H Q I (w σ H Q q)⟩
/-! ### targets -/
def gsNil : DGs := fun ds st P => ds = [] ∧ P st
def gsCons (t : DG) (u : DGs) : DGs := fun ds st P => ∃ d r, ds = d :: r ∧ t d st (fun st' => u r st' P)
def gsTup (n : Nat) (t : DGs) : DG := fun d st P => ∃ xs, d = .tup xs ∧ xs.length = n ∧ t xs st P
/-- target = e -/
def dsAsg (te : DE) (t : DG) : DB := fun st E => te st (fun d st' => t d st' E.nx) E.ex
section
variable {X : Cx} {g : Gr} {en : En} {W : WX} {e tg : Expr} {es : List Expr} {t : DG} {u : DGs} {te : DE} {pos : Pos}
theorem dg_var {i : Nat} {x : Str} (hN : X.N.Nodup) (hi : X.N[i]? = some x := by rfl) (hx : Loc X.env.scope x := by first | exact Or.inl rfl | exact Or.inr rfl)
    (hf : X.fn x = true ∨ X.env.scope.names.lookup x = some .local := by first | exact .inl rfl | exact .inr rfl | assumption) : PG X (.Name x pos) (lg g en (gVar i)) := by
  refine (pg_name hN hi hx hf).weak ?_
  rintro v σ H Q ⟨F, st, d, P, rs, r, q, k⟩
  exact k _ _ F H q (Sub.refl _) (rs.store r i)
theorem dgs_nil : PGs X [] (lgs g en gsNil) := by
  refine pgs_nil.weak ?_
  rintro v σ H Q ⟨F, st, ds, P, rs, r, ⟨rfl, q⟩, k⟩
  simp only [Reps] at r
  exact ⟨r, k _ _ F H q (Sub.refl _) rs⟩
theorem dgs_cons (h1 : PG X e (lg g en t)) (h2 : PGs X es (lgs g en u)) (hs : (assignEach (e :: es) X.env).map (·.2) = assign e X.env :: (assignEach es X.env).map (·.2) := by rfl) : PGs X (e :: es) (lgs g en (gsCons t u)) := by
  refine (pgs_cons h1 h2 hs).weak ?_
  rintro vs σ H Q ⟨F, st, ds, P, rs, r, ⟨d, dr, rfl, q⟩, k⟩
  simp only [Reps] at r
  obtain ⟨v, vr, rfl, r1, r2⟩ := r
  exact ⟨v, vr, rfl, F, st, d, _, rs, r1, q, fun st1 σ1 F1 H1 q1 s1 rs1 => ⟨F1, st1, dr, P, rs1, r2.mono s1, q1, fun st2 σ2 F2 H2 q2 s2 rs2 => k _ _ _ _ q2 (s1.trans s2) rs2⟩⟩
theorem dg_tup {k n : Nat} (o : On X g) (h : PGs X es (lgs g en u)) (hn : (assignEach es X.env).length = n := by rfl) (hst : (assignEach es X.env).findIdx? (·.1) = none := by rfl) : PG X (.Tuple es k pos) (lg g en (gsTup n u)) := by
  refine (pg_tup o.calm h hn hst).weak ?_
  rintro v σ H Q ⟨F, st, d, P, rs, r, ⟨xs, rfl, hl, q⟩, k⟩
  simp only [Rep] at r
  obtain ⟨a, vs, rfl, q1, r1⟩ := r
  exact ⟨a, vs, rfl, by rw [o.K]; exact rs.w.sub.sqT q1, by rw [r1.length]; exact hl, F, st, xs, P, rs, r1, q, k⟩
theorem ds_asg (he : PE X e (le g en W te)) (hg : PG X tg (lg g en t)) (hs : swapsWithSole [tg] e pos.line X.env = pure false := by rfl) (hw : swappedStores [tg] e X.env = pure none := by rfl)
    (h1 : (assignEach [tg] X.env).map (·.2) = [assign tg X.env] := by rfl) : PS X (.Assign [tg] e pos) (ls g en W (dsAsg te t)) := by
  refine (ps_asg he hg hs hw h1).weak ?_
  rintro D σ H ⟨F, st, E, rs, q, k⟩
  exact ⟨F, st, _, E.ex, rs, q, fun d st1 v F1 H1 t1 s1 rs1 r1 => ⟨F1, st1, d, _, rs1, r1, t1, fun st2 σ2 F2 H2 q2 s2 rs2 => k.nx _ _ _ _ q2 (s1.trans s2) rs2⟩, k.ex⟩
end
/-! ### what is walked -/
structure IW (g : Gr) (F : Hp) (J : It) (ds : List D) : Prop where
  goes : ∀ i H, Sub F H → i < ds.length → J.go i H
  stops : ∀ H, Sub F H → J.stop ds.length H
  yields : ∀ (i : Nat) H x H', Sub F H → i < ds.length → J.yld i H x H' → ∃ d, ds[i]? = some d ∧ ((H' = H ∧ Rep g F d x) ∨ ∃ T vs es, x = .ref T ∧ H T = none ∧ H' = upd H T (.tup vs) ∧ d = .tup es ∧ Reps g F es vs)
def li (g : Gr) (en : En) (W : WX) (t : DA) : TI := fun σ H k => ∃ F st P R, Rs g en F σ H st ∧ t st P R ∧ (∀ ds st' F' H' J, P ds st' → Sub F F' → Rs g en F' σ H' st' → IW g F' J ds → k J H') ∧ XF g en W R F
theorem IW.mono {g : Gr} {F F' : Hp} {J : It} {ds : List D} (h : IW g F J ds) (s : Sub F F') : IW g F' J ds :=
  ⟨fun i H z => h.goes i H (s.trans z), fun H z => h.stops H (s.trans z), fun i H x H' z hi y => by
    obtain ⟨d, e, q⟩ := h.yields i H x H' (s.trans z) hi y
    refine ⟨d, e, ?_⟩
    rcases q with ⟨q, r⟩ | ⟨T, vs, es, q1, q2, q3, q4, r⟩
    · exact .inl ⟨q, r.mono s⟩
    · exact .inr ⟨T, vs, es, q1, q2, q3, q4, r.mono s⟩⟩
/-- an item has come: it stands for its data -/
theorem IW.item {g : Gr} {en : En} {F H H' : Hp} {σ : L2.St} {st : DS} {J : It} {ds : List D} {i : Nat} {x : V} (w : IW g F J ds) (rs : Rs g en F σ H st) (hi : i < ds.length) (y : J.yld i H x H') :
    ∃ d F', ds[i]? = some d ∧ Sub F F' ∧ Rs g en F' σ H' st ∧ Rep g F' d x := by
  obtain ⟨d, e, q⟩ := w.yields i H x H' rs.w.sub hi y
  rcases q with ⟨rfl, r⟩ | ⟨T, vs, es, rfl, q2, rfl, rfl, r⟩
  · exact ⟨d, F, e, Sub.refl _, rs, r⟩
  · have fT : F T = none := by
      cases z : F T with
      | none => rfl
      | some u => rw [rs.w.sub _ _ z] at q2; cases q2
    refine ⟨_, _, e, Sub.new fT, rs.laid q2 (fun ps z => by cases z), ?_⟩
    simp only [Rep]
    exact ⟨T, vs, rfl, .inl (.inl upd_same), r.mono (Sub.new fT)⟩
def itemsD : D → Option (List D)
  | .lst xs => some xs
  | .tup xs => some xs
  | .str z => some (z.cps.toList.map fun c => .str ⟨#[c]⟩)
  | _ => none
def dItems (te : DE) : DA := fun st P R => te st (fun d st' => ∃ ds, itemsD d = some ds ∧ P ds st') R
def rangeD1 : List D → Option (List D)
  | [.int j] => if -(2 ^ 62) ≤ j ∧ j < 2 ^ 62 then some ((List.range j.toNat).map fun (i : Nat) => .int (i : Int)) else none
  | _ => none
def rangeD2 : List D → Option (List D)
  | [.int i, .int j] => if -(2 ^ 62) ≤ i ∧ i < 2 ^ 62 ∧ -(2 ^ 62) ≤ j ∧ j < 2 ^ 62 then some ((List.range (j - i).toNat).map fun (k : Nat) => .int (i + (k : Int))) else none
  | _ => none
def dRng (f : List D → Option (List D)) (ta : DA) : DA := fun st P R => ta st (fun as st' => ∃ ds, f as = some ds ∧ P ds st') R
section
variable {X : Cx} {g : Gr} {en : En} {W : WX} {e tg a b : Expr} {te : DE} {ta : DA} {p pos : Pos}
theorem Reps.at {F : Hp} : ∀ {ds : List D} {vs : List V} {i : Nat} {v : V}, Reps g F ds vs → vs[i]? = some v → ∃ d, ds[i]? = some d ∧ Rep g F d v
  | [], _, i, v, h, e => by
    simp only [Reps] at h
    subst h
    cases e
  | d :: ds, _, 0, v, h, e => by
    simp only [Reps] at h
    obtain ⟨w, r, rfl, q, t⟩ := h
    cases e
    exact ⟨d, rfl, q⟩
  | d :: ds, _, i + 1, v, h, e => by
    simp only [Reps] at h
    obtain ⟨w, r, rfl, q, t⟩ := h
    exact t.at e
theorem iw_list {K : PySem.W.Frag} {F : Hp} {a : Addr} {ds : List D} {vs : List V} (hk : K = g.K) (q : F a = some (.lst vs)) (r : Reps g F ds vs) : IW g F (Itl K a) ds := by
  have w := walk_list (K := K) (a := a) (xs := vs)
  have hl := r.length
  refine ⟨fun i H s hi => w.goes i H (by rw [hl]; exact hi) (.of (s _ _ q)), fun H s => by rw [← hl]; exact w.stops H (.of (s _ _ q)), fun i H x H' s hi y => ?_⟩
  obtain ⟨e1, e2⟩ := w.yields i H x H' (by rw [hl]; exact hi) (.of (s _ _ q)) y
  obtain ⟨d, e3, r3⟩ := r.at e2
  exact ⟨d, e3, .inl ⟨e1, r3⟩⟩
theorem iw_tup {K : PySem.W.Frag} {F : Hp} {a : Addr} {ds : List D} {vs : List V} (hk : K = g.K) (q : SqT g.K F a vs) (r : Reps g F ds vs) : IW g F (Itt K a) ds := by
  subst hk
  have w := walk_tup (K := g.K) (a := a) (xs := vs)
  have hl := r.length
  refine ⟨fun i H s hi => w.goes i H (by rw [hl]; exact hi) (s.sqT q), fun H s => by rw [← hl]; exact w.stops H (s.sqT q), fun i H x H' s hi y => ?_⟩
  obtain ⟨e1, e2⟩ := w.yields i H x H' (by rw [hl]; exact hi) (s.sqT q) y
  obtain ⟨d, e3, r3⟩ := r.at e2
  exact ⟨d, e3, .inl ⟨e1, r3⟩⟩
theorem iw_str {F : Hp} {z : Str} : IW g F (Its z) (z.cps.toList.map fun c => .str ⟨#[c]⟩) := by
  have w := walk_str (z := z)
  have hl : (z.cps.toList.map fun c => D.str ⟨#[c]⟩).length = z.cps.size := by simp
  refine ⟨fun i H s hi => w.goes i H (by rw [← hl]; exact hi) trivial, fun H s => by rw [hl]; exact w.stops H trivial, fun i H x H' s hi y => ?_⟩
  obtain ⟨e1, c, e2, e3⟩ := w.yields i H x H' (by rw [← hl]; exact hi) trivial y
  refine ⟨.str ⟨#[c]⟩, ?_, .inl ⟨e1, by simp only [Rep]; exact e3⟩⟩
  rw [List.getElem?_map, Array.getElem?_toList, e2]; rfl
theorem iw_rng {F : Hp} {lo : Int} {n : Nat} : IW g F (Itr lo n) ((List.range n).map fun (i : Nat) => .int (lo + (i : Int))) := by
  have w := walk_range (lo := lo) (n := n)
  have hl : ((List.range n).map fun (i : Nat) => D.int (lo + (i : Int))).length = n := by simp
  refine ⟨fun i H s hi => w.goes i H (by rw [← hl]; exact hi) trivial, fun H s => by rw [hl]; exact w.stops H trivial, fun i H x H' s hi y => ?_⟩
  have hi' : i < n := by rw [← hl]; exact hi
  obtain ⟨e1, e2⟩ := w.yields i H x H' hi' trivial y
  refine ⟨.int (lo + (i : Int)), ?_, .inl ⟨e1, by simp only [Rep]; exact e2⟩⟩
  rw [List.getElem?_map, List.getElem?_range hi']; rfl
theorem di_val (o : On X g) (he : PE X e (le g en W te)) : PI X tg e (li g en W (dItems te)) := by
  refine ⟨fun pins s σ H K I ⟨F, st, P, R, rs, q, kP, kR⟩ => ?_⟩
  refine thn (he.run pins s σ H (fun v H1 => ∃ F1 st1 d ds, Sub F F1 ∧ Rs g en F1 σ H1 st1 ∧ Rep g F1 d v ∧ itemsD d = some ds ∧ P ds st1) I ⟨F, st, _, R, rs, q, fun d st1 v F1 H1 ⟨ds, e1, p1⟩ s1 rs1 r1 => ⟨F1, st1, d, ds, s1, rs1, r1, e1, p1⟩, kR⟩) fun u s1 ⟨x, H1, I1, r1, F1, st1, d, ds, z1, rs1, rp, e1, p1⟩ => ?_
  have hK := o.K
  unfold itemsD at e1
  split at e1
  · cases e1
    simp only [Rep] at rp
    obtain ⟨a, vs, rfl, qa, ra⟩ := rp
    cases r1
    obtain ⟨its, rv, pl, hz⟩ := I1.list (L2.SqL.of (rs1.w.sub _ _ qa))
    exact wpAny_pyIter_list pl.isList (pi_one (tk := s1.toks) I1 _ (turn_list a _) ⟨_, Heap.get?_push_size _ rfl, rfl, rfl⟩ (kP ds st1 F1 H1 _ p1 z1 rs1 (iw_list hK qa ra)))
  · cases e1
    simp only [Rep] at rp
    obtain ⟨a, vs, rfl, qa, ra⟩ := rp
    cases r1
    obtain ⟨its, rv, pl, hz⟩ := I1.tuple (xs := vs) (by rw [hK]; exact rs1.w.sub.sqT qa)
    exact wpAny_pyIter_tuple (show s1.heap.IsTuple a its.toArray from pl) (pi_one (tk := s1.toks) I1 _ (turn_tuple a _) ⟨_, Heap.get?_push_size _ rfl, rfl, rfl⟩ (kP ds st1 F1 H1 _ p1 z1 rs1 (iw_tup hK qa ra)))
  · rename_i z
    cases e1
    simp only [Rep] at rp
    subst rp
    obtain ⟨t, rfl⟩ := r1
    have K2 := kP _ st1 F1 H1 _ p1 z1 rs1 (iw_str (z := z))
    cases ha : z.cps.all (· < 128)
    · exact wpAny_pyIter_wide ha (pi_one (tk := s1.toks) I1 _ (turn_str _ z t "str_iterator" (.inr rfl)) ⟨_, Heap.get?_push_size _ rfl, rfl, rfl⟩ K2)
    · exact wpAny_pyIter_ascii ha (pi_one (tk := s1.toks) I1 _ (turn_str _ z t "str_ascii_iterator" (.inl rfl)) ⟨_, Heap.get?_push_size _ rfl, rfl, rfl⟩ K2)
  · cases e1
theorem di_rng1 (hg : Gl X "range") (hm : X.mg "range" = none) (ha : PA X [a] (la g en W ta)) (hs : starEach [a] X.env = [(false, eval a X.env)] := by rfl) : PI X tg (.Call (.Name "range" p) [a] [] pos) (li g en W (dRng rangeD1 ta)) := by
  refine (pi_range1 hg hm ha hs).weak ?_
  rintro σ H K ⟨F, st, P, R, rs, q, kP, kR⟩
  refine ⟨F, st, _, R, rs, q, fun ds st1 vs F1 H1 t1 s1 rs1 r1 => ?_, kR⟩
  obtain ⟨es, e1, p1⟩ := t1
  unfold rangeD1 at e1
  split at e1
  · rename_i j
    simp only [Reps, Rep] at r1
    obtain ⟨_, _, rfl, rfl, rfl⟩ := r1
    split at e1
    · rename_i hb
      cases e1
      refine ⟨j, rfl, hb.1, hb.2, kP _ st1 F1 H1 _ p1 s1 rs1 ?_⟩
      have w := iw_rng (g := g) (F := F1) (lo := 0) (n := j.toNat)
      simpa using w
    · cases e1
  · cases e1
theorem di_rng2 (hg : Gl X "range") (hm : X.mg "range" = none) (ha : PA X [a, b] (la g en W ta)) (hs : starEach [a, b] X.env = [(false, eval a X.env), (false, eval b X.env)] := by rfl) (hs2 : starEach [b] X.env = [(false, eval b X.env)] := by rfl) :
    PI X tg (.Call (.Name "range" p) [a, b] [] pos) (li g en W (dRng rangeD2 ta)) := by
  refine (pi_range2 hg hm ha hs hs2).weak ?_
  rintro σ H K ⟨F, st, P, R, rs, q, kP, kR⟩
  refine ⟨F, st, _, R, rs, q, fun ds st1 vs F1 H1 t1 s1 rs1 r1 => ?_, kR⟩
  obtain ⟨es, e1, p1⟩ := t1
  unfold rangeD2 at e1
  split at e1
  · rename_i i j
    simp only [Reps, Rep] at r1
    obtain ⟨_, _, rfl, rfl, _, _, rfl, rfl, rfl⟩ := r1
    split at e1
    · rename_i hb
      cases e1
      exact ⟨i, j, rfl, hb, kP _ st1 F1 H1 _ p1 s1 rs1 iw_rng⟩
    · cases e1
  · cases e1
end
/-! ### for -/
def dsForL (t : DG) (u : DB) : List D → DB
  | [] => fun st E => E.nx st
  | d :: r => fun st E => t d st fun st1 => u st1 { E with nx := fun st2 => dsForL t u r st2 E, ct := fun st2 => dsForL t u r st2 E, bk := E.nx }
def dsFor (it : DA) (t : DG) (u : DB) : DB := fun st E => it st (fun ds st1 => dsForL t u ds st1 E) E.ex
/-- while, by a measure -/
def dsWhile (c : DT) (u : DB) : DB := fun st E => ∃ Iv : Nat → DS → Prop, (∃ m, Iv m st) ∧ ∀ m st1, Iv m st1 → c st1 (fun b st2 => if b = true then
  u st2 { E with nx := fun st3 => ∃ m', m' < m ∧ Iv m' st3, ct := fun st3 => ∃ m', m' < m ∧ Iv m' st3, bk := E.nx } else E.nx st2) E.ex
section
variable {X : Cx} {g : Gr} {en : En} {W : WX} {iter tg c : Expr} {body : List Stmt} {it : DA} {t : DG} {u : DB} {tc : DT} {pos : Pos}
theorem ds_for (o : On X g) (hi : PI X tg iter (li g en W it)) (hg : PG X tg (lg g en t)) (hb : PSs X body (ls g en W u)) (hp : PassesOwn (model X.prog X.w) X.A X.env X.xe)
    (hs : ∀ x, foldedSetIterable iter X.env x = pure x := by intro _; rfl) : PS X (.For tg iter body [] pos) (ls g en W (dsFor it t u)) := by
  refine PS.weak (ps_for hp o.calm hi hg hb hs) ?_
  rintro D σ H ⟨F, st, E, rs, q, k⟩
  refine ⟨F, st, _, E.ex, rs, q, fun ds st1 F1 H1 J t1 s1 rs1 w => ?_, k.ex⟩
  refine ⟨fun i m σ H => m = ds.length - i ∧ i ≤ ds.length ∧ ∃ F2 st2, Sub F1 F2 ∧ Rs g en F2 σ H st2 ∧ dsForL t u (ds.drop i) st2 E, ⟨_, rfl, Nat.zero_le _, F1, st1, Sub.refl _, rs1, t1⟩, ?_⟩
  rintro i m σ2 H2 ⟨rfl, hle, F2, st2, s2, rs2, q2⟩
  by_cases hlt : i < ds.length
  · refine .inr ⟨w.goes i H2 (s2.trans rs2.w.sub) hlt, fun σ H => ∃ F3 st3, Sub F1 F3 ∧ Rs g en F3 σ H st3 ∧ dsForL t u (ds.drop (i + 1)) st3 E, fun σ' H' z => ⟨_, by omega, rfl, hlt, z⟩, fun x H3 y => ?_⟩
    obtain ⟨d, F3, e1, s3, rs3, r3⟩ := (w.mono s2).item rs2 hlt y
    have e2 : ds.drop i = d :: ds.drop (i + 1) := by
      rw [List.drop_eq_getElem_cons hlt]
      rw [List.getElem?_eq_getElem hlt] at e1
      cases e1; rfl
    rw [e2] at q2
    refine ⟨F3, st2, d, _, rs3, r3, q2, fun st4 σ4 F4 H4 q4 s4 rs4 => ⟨F4, st4, _, rs4, q4, ?_⟩⟩
    have s14 : Sub F1 F4 := s2.trans (s3.trans s4)
    have kk := k.sub (s1.trans s14)
    exact ⟨fun st5 σ5 F5 H5 q5 s5 rs5 => ⟨F5, st5, s14.trans s5, rs5, q5⟩, kk.nx, fun st5 σ5 F5 H5 q5 s5 rs5 => ⟨F5, st5, s14.trans s5, rs5, q5⟩, kk.rt, kk.ex⟩
  · have e : i = ds.length := by omega
    subst e
    rw [List.drop_length] at q2
    exact .inl ⟨w.stops H2 (s2.trans rs2.w.sub), k.nx _ _ _ _ q2 (s1.trans s2) rs2⟩
theorem ds_while (hc : PT X c (lt g en W tc)) (hb : PSs X body (ls g en W u)) (hp : PassesOwn (model X.prog X.w) X.A X.env X.xe) : PS X (.While c body [] pos) (ls g en W (dsWhile tc u)) := by
  refine PS.weak (ps_while hp hc hb) ?_
  rintro D σ H ⟨F, st, E, rs, ⟨Iv, ⟨m0, h0⟩, step⟩, k⟩
  refine ⟨fun m σ H => ∃ F2 st2, Sub F F2 ∧ Rs g en F2 σ H st2 ∧ Iv m st2, ⟨m0, F, st, Sub.refl _, rs, h0⟩, ?_⟩
  rintro m σ2 H2 ⟨F2, st2, s2, rs2, q2⟩
  refine ⟨F2, st2, _, E.ex, rs2, step m st2 q2, fun b st3 F3 H3 q3 s3 rs3 => ?_, k.ex.sub s2⟩
  cases b with
  | true =>
    simp only [if_true] at q3 ⊢
    have s := s2.trans s3
    refine ⟨fun σ H => ∃ m', m' < m ∧ ∃ F5 st5, Sub F F5 ∧ Rs g en F5 σ H st5 ∧ Iv m' st5, fun σ' H' z => z, F3, st3, _, rs3, q3, fun st5 σ5 F5 H5 z s5 rs5 => ?_, (k.sub s).nx, fun st5 σ5 F5 H5 z s5 rs5 => ?_, (k.sub s).rt, (k.sub s).ex⟩
    · obtain ⟨m', hm, q5⟩ := z
      exact ⟨m', hm, F5, st5, s.trans s5, rs5, q5⟩
    · obtain ⟨m', hm, q5⟩ := z
      exact ⟨m', hm, F5, st5, s.trans s5, rs5, q5⟩
  | false =>
    simp only [Bool.false_eq_true, if_false] at q3 ⊢
    exact k.nx _ _ _ _ q3 (s2.trans s3) rs3
end
end Dl

set_option maxHeartbeats 3900000
namespace Dl
open PySem
open PySem.Spec
open PyProof.Rows
open L2

/-! ### comprehensions -/
def NoX : WX := fun _ _ _ _ => False
def wipeS (e : List Sl) : List Nat → List Sl
  | [] => e
  | v :: vs => (wipeS e vs).set v .un
def DS.wipe (st : DS) (vs : List Nat) : DS := ⟨wipeS st.e vs, st.n⟩
def backS (old e : List Sl) : List Nat → List Sl
  | [] => e
  | v :: vs => match old[v]? with
    | some (.fz d) => (backS old e vs).set v (.fz d)
    | _ => backS old e vs
def DS.back (old st : DS) (vs : List Nat) : DS := ⟨backS old.e st.e vs, st.n⟩
theorem wipe_get {σ : L2.St} {j : Nat} : ∀ {vs : List Nat}, j ∉ vs → (wipe σ vs)[j]? = σ[j]?
  | [], _ => rfl
  | v :: vs, h => by
    unfold wipe
    rw [List.getElem?_set_ne (fun z => h (by rw [z]; exact List.mem_cons_self ..))]
    exact wipe_get fun z => h (List.mem_cons_of_mem _ z)
theorem wipeS_len {e : List Sl} : ∀ {vs : List Nat}, (wipeS e vs).length = e.length
  | [] => rfl
  | v :: vs => by unfold wipeS; rw [List.length_set]; exact wipeS_len
theorem wipeS_get {e : List Sl} {j : Nat} {s : Sl} : ∀ {vs : List Nat}, (wipeS e vs)[j]? = some s → (j ∈ vs ∧ s = .un) ∨ (j ∉ vs ∧ e[j]? = some s)
  | [], h => .inr ⟨List.not_mem_nil, h⟩
  | v :: vs, h => by
    unfold wipeS at h
    rcases set_get h with ⟨z, _, q⟩ | ⟨z, q⟩
    · exact .inl ⟨by rw [z]; exact List.mem_cons_self .., q⟩
    · rcases wipeS_get q with ⟨m, y⟩ | ⟨m, y⟩
      · exact .inl ⟨List.mem_cons_of_mem _ m, y⟩
      · exact .inr ⟨fun w => (List.mem_cons.mp w).elim z m, y⟩
theorem wipe_set {σ : L2.St} {i : Nat} {x : Option V} : ∀ {vs : List Nat}, i ∈ vs → wipe (σ.set i x) vs = wipe σ vs
  | [], h => by cases h
  | v :: vs, h => by
    unfold wipe
    by_cases z : i ∈ vs
    · rw [wipe_set z]
    · have e : i = v := (List.mem_cons.mp h).resolve_right z
      subst e
      have comm : ∀ {ws : List Nat}, i ∉ ws → wipe (σ.set i x) ws = (wipe σ ws).set i x := by
        intro ws
        induction ws with
        | nil => intro _; rfl
        | cons w ws ih =>
          intro hw
          unfold wipe
          rw [ih fun y => hw (List.mem_cons_of_mem _ y), List.set_comm _ _ (fun y => hw (by rw [y]; exact List.mem_cons_self ..))]
      rw [comm z, List.set_set]
theorem wipe_wipe {σ : L2.St} {vs : List Nat} : wipe (wipe σ vs) vs = wipe σ vs := by
  have key : ∀ {ws : List Nat}, (∀ w ∈ ws, w ∈ vs) → wipe (wipe σ ws) vs = wipe σ vs := by
    intro ws
    induction ws with
    | nil => intro _; rfl
    | cons w ws ih =>
      intro h
      show wipe ((wipe σ ws).set w none) vs = _
      rw [wipe_set (h w (List.mem_cons_self ..))]
      exact ih fun y hy => h y (List.mem_cons_of_mem _ hy)
  exact key fun _ h => h
section
variable {g : Gr} {en : En} {F F' H H' : Hp} {σ : L2.St} {st : DS} {l : Addr} {ds : List D} {vs : List V} {ws : List Nat}
/-- with an own list set aside -/
def En.put (en : En) (l : Addr) (vs : List V) : En := ⟨en.H, en.F, (l, vs) :: en.gh⟩
theorem Rs.wipe (h : Rs g en F σ H st) : Rs g en F (wipe σ ws) H (st.wipe ws) := by
  have key : ∀ {j : Nat} {s : Sl}, (wipeS st.e ws)[j]? = some s → s ≠ .un → j ∉ ws ∧ st.e[j]? = some s ∧ (L2.wipe σ ws)[j]? = σ[j]? := fun {j s} q n => by
    rcases wipeS_get q with ⟨_, z⟩ | ⟨m, z⟩
    · exact absurd z n
    · exact ⟨m, z, wipe_get m⟩
  refine ⟨h.w, h.es, h.cel0, h.old, h.dom, h.new, ?_, fun j d q => ?_, fun j es q => ?_, fun j k es fs m hjk q1 q2 q3 => ?_, fun q hq => ?_⟩
  · show (wipeS st.e ws).length = _
    rw [wipeS_len, wipe_length]; exact h.len
  · obtain ⟨_, z, e⟩ := key q (fun y => by cases y)
    rw [e]; exact h.fz j d z
  · obtain ⟨_, z, e⟩ := key q (fun y => by cases y)
    rw [e]; exact h.ol j es z
  · obtain ⟨_, z1, e1⟩ := key q1 (fun y => by cases y)
    obtain ⟨_, z2, e2⟩ := key q2 (fun y => by cases y)
    rw [e1] at q3
    rw [e2]
    exact h.ap j k es fs m hjk z1 z2 q3
  · obtain ⟨g1, g2, g3, g4⟩ := h.gk q hq
    refine ⟨g1, g2, g3, fun j es q5 => ?_⟩
    obtain ⟨_, z, e⟩ := key q5 (fun y => by cases y)
    rw [e]; exact g4 j es z
/-- back: nothing is known of the wiped slots -/
theorem Rs.unwipe (h : Rs g en F (L2.wipe σ ws) H st) (hw : ∀ j ∈ ws, ∀ s, st.e[j]? = some s → s = .un) : Rs g en F σ H st := by
  have key : ∀ {j : Nat} {s : Sl}, st.e[j]? = some s → s ≠ .un → (L2.wipe σ ws)[j]? = σ[j]? := fun {j s} q n => wipe_get fun m => n (hw j m s q)
  refine ⟨h.w, h.es, h.cel0, h.old, h.dom, h.new, by rw [h.len, wipe_length], fun j d q => ?_, fun j es q => ?_, fun j k es fs m hjk q1 q2 q3 => ?_, fun q hq => ?_⟩
  · rw [← key q (fun y => by cases y)]; exact h.fz j d q
  · rw [← key q (fun y => by cases y)]; exact h.ol j es q
  · rw [← key q1 (fun y => by cases y)] at q3
    rw [← key q2 (fun y => by cases y)]
    exact h.ap j k es fs m hjk q1 q2 q3
  · obtain ⟨g1, g2, g3, g4⟩ := h.gk q hq
    exact ⟨g1, g2, g3, fun j es q5 => by rw [← key q5 (fun y => by cases y)]; exact g4 j es q5⟩
theorem Rs.aside (h : Rs g en F σ H st) (w : Own g en F H l ds vs) (na : NA en st σ l) : Rs g (en.put l vs) F σ H st := by
  refine ⟨h.w, h.es, h.cel0, h.old, h.dom, h.new, h.len, h.fz, h.ol, h.ap, fun q hq => ?_⟩
  rcases List.mem_cons.mp hq with rfl | hq
  · exact ⟨w.at_, w.fr, w.np, na.1⟩
  · exact h.gk q hq
theorem Rs.inside (h : Rs g (en.put l vs) F σ H st) (e0 : Nw en.H l) (na : ∀ q ∈ en.gh, q.1 ≠ l) (r : Reps g F ds vs) : Rs g en F σ H st ∧ Own g en F H l ds vs ∧ NA en st σ l := by
  obtain ⟨g1, g2, g3, g4⟩ := h.gk (l, vs) (List.mem_cons_self ..)
  exact ⟨⟨h.w, h.es, h.cel0, h.old, h.dom, h.new, h.len, h.fz, h.ol, h.ap, fun q hq => h.gk q (List.mem_cons_of_mem _ hq)⟩, ⟨g1, r, g2, e0, g3⟩, g4, na⟩
/-- the list set aside is changed -/
theorem Rs.asideMut {vs' : List V} (h : Rs g (en.put l vs) F σ H st) (e0 : Nw en.H l) (na : ∀ q ∈ en.gh, q.1 ≠ l) : Rs g (en.put l vs') F σ (upd H l (.lst vs')) st := by
  obtain ⟨g1, g2, g3, g4⟩ := h.gk (l, vs) (List.mem_cons_self ..)
  have kp : Keep g en.H (upd H l (.lst vs')) := fun b u q n m => by
    rw [upd_ne (e0.ne q n)]
    exact h.old b u q n m
  refine ⟨⟨fun a u q => ?_, h.w.ntb, h.w.npen, ?_, h.cel0.of0 kp, h.w.tab.upd g1⟩, h.es, h.cel0, kp, fun a q => ?_, h.new, h.len, h.fz, fun j es q => ?_, h.ap, fun q hq => ?_⟩
  · have z : a ≠ l := fun z => by rw [z, g2] at q; cases q
    rw [upd_ne z]
    exact h.w.sub _ _ q
  · obtain ⟨x, r, e, k⟩ := h.w.pen
    exact ⟨x, r, by rw [upd_ne (Ne.symm g3)]; exact e, k⟩
  · by_cases z : a = l
    · subst z; exact e0
    · exact h.dom _ fun u y => q u (by rw [upd_ne z]; exact y)
  · obtain ⟨l', ws, p1, p2, p3⟩ := h.ol j es q
    have nl : l' ≠ l := fun y => g4 j es q (by rw [← y]; exact p1)
    exact ⟨l', ws, p1, by rw [upd_ne nl]; exact p2, p3⟩
  · rcases List.mem_cons.mp hq with rfl | hq
    · exact ⟨upd_same, g2, g3, g4⟩
    · obtain ⟨k1, k2, k3, k4⟩ := h.gk q (List.mem_cons_of_mem _ hq)
      exact ⟨by rw [upd_ne (na q hq)]; exact k1, k2, k3, k4⟩
theorem Rs.back {old : DS} {F0 H0 : Hp} (h0 : Rs g en F0 σ H0 old) (s : Sub F0 F) (h : Rs g en F σ H st) : ∀ ws : List Nat, Rs g en F σ H (old.back st ws)
  | [] => h
  | v :: ws => by
    have ih := Rs.back h0 s h ws
    unfold DS.back backS
    split
    · rename_i d e
      obtain ⟨x, e1, r⟩ := h0.fz v d e
      have z := ih.store (r.mono s) v
      have e2 : σ.set v (some x) = σ := by
        have hv : v < σ.length := (List.getElem?_eq_some_iff.mp e1).1
        have e3 : σ[v] = some x := by
          rw [List.getElem?_eq_getElem hv] at e1
          exact Option.some.inj e1
        rw [← e3, List.set_getElem_self]
      rw [e2] at z
      exact z
    · exact ih
end
/-- a block's target -/
def lgv (g : Gr) (ws : List Nat) (t : DG) : TG := fun v σ H Q => ∃ en F st d P, Rs g en F σ H st ∧ Rep g F d v ∧ t d st P ∧ ∀ st' σ' F' H', P st' → Sub F F' → Rs g en F' σ' H' st' → wipe σ' ws = wipe σ ws → Q σ' H'
def lgvs (g : Gr) (ws : List Nat) (t : DGs) : TGs := fun v σ H Q => ∃ en F st d P, Rs g en F σ H st ∧ Reps g F d v ∧ t d st P ∧ ∀ st' σ' F' H', P st' → Sub F F' → Rs g en F' σ' H' st' → wipe σ' ws = wipe σ ws → Q σ' H'
section
variable {X : Cx} {g : Gr} {e tg : Expr} {es : List Expr} {t : DG} {u : DGs} {pos : Pos} {ws : List Nat}
theorem bg_var {i : Nat} {x : Str} (hN : X.N.Nodup) (hm : i ∈ ws := by decide) (hi : X.N[i]? = some x := by rfl) (hx : Loc X.env.scope x := by first | exact Or.inl rfl | exact Or.inr rfl)
    (hf : X.fn x = true ∨ X.env.scope.names.lookup x = some .local := by first | exact .inl rfl | exact .inr rfl | assumption) : PG X (.Name x pos) (lgv g ws (gVar i)) := by
  refine (pg_name hN hi hx hf).weak ?_
  rintro v σ H Q ⟨en, F, st, d, P, rs, r, q, k⟩
  exact k _ _ F H q (Sub.refl _) (rs.store r i) (wipe_set hm)
theorem bgs_nil : PGs X [] (lgvs g ws gsNil) := by
  refine pgs_nil.weak ?_
  rintro v σ H Q ⟨en, F, st, ds, P, rs, r, ⟨rfl, q⟩, k⟩
  simp only [Reps] at r
  exact ⟨r, k _ _ F H q (Sub.refl _) rs rfl⟩
theorem bgs_cons (h1 : PG X e (lgv g ws t)) (h2 : PGs X es (lgvs g ws u)) (hs : (assignEach (e :: es) X.env).map (·.2) = assign e X.env :: (assignEach es X.env).map (·.2) := by rfl) : PGs X (e :: es) (lgvs g ws (gsCons t u)) := by
  refine (pgs_cons h1 h2 hs).weak ?_
  rintro vs σ H Q ⟨en, F, st, ds, P, rs, r, ⟨d, dr, rfl, q⟩, k⟩
  simp only [Reps] at r
  obtain ⟨v, vr, rfl, r1, r2⟩ := r
  exact ⟨v, vr, rfl, en, F, st, d, _, rs, r1, q, fun st1 σ1 F1 H1 q1 s1 rs1 w1 => ⟨en, F1, st1, dr, P, rs1, r2.mono s1, q1, fun st2 σ2 F2 H2 q2 s2 rs2 w2 => k _ _ _ _ q2 (s1.trans s2) rs2 (w2.trans w1)⟩⟩
theorem bg_tup {k n : Nat} (hK : X.K = g.K) (hc : X.calm = true) (h : PGs X es (lgvs g ws u)) (hn : (assignEach es X.env).length = n := by rfl) (hst : (assignEach es X.env).findIdx? (·.1) = none := by rfl) : PG X (.Tuple es k pos) (lgv g ws (gsTup n u)) := by
  refine (pg_tup hc h hn hst).weak ?_
  rintro v σ H Q ⟨en, F, st, d, P, rs, r, ⟨xs, rfl, hl, q⟩, k⟩
  simp only [Rep] at r
  obtain ⟨a, vs, rfl, q1, r1⟩ := r
  exact ⟨a, vs, rfl, by rw [hK]; exact rs.w.sub.sqT q1, by rw [r1.length]; exact hl, en, F, st, xs, P, rs, r1, q, k⟩
end
def dLcL (t : DG) (tc : DT) (te : DE) (ws : List Nat) : List D → DS → List D → (List D → DS → Prop) → Prop
  | [], st, acc, P => P acc st
  | d :: r, st, acc, P => t d st fun st1 => tc st1 (fun b st2 => if b = true then te st2 (fun y st3 => acc.length < sizeLine ∧ dLcL t tc te ws r (st3.wipe ws) (acc ++ [y]) P) (fun _ _ => False) else dLcL t tc te ws r (st2.wipe ws) acc P) (fun _ _ => False)
def dLc (it : DA) (t : DG) (tc : DT) (te : DE) (ws : List Nat) : DA := fun st P R => it st (fun ds st1 => dLcL t tc te ws ds (st1.wipe ws) [] (fun acc st2 => P acc (st1.back st2 ws))) R
def dYes : DT := fun st P _ => P true st
theorem backS_ol {old e : List Sl} {j : Nat} {es : List D} : ∀ {ws : List Nat}, (backS old e ws)[j]? = some (.ol es) → e[j]? = some (.ol es)
  | [], h => h
  | v :: ws, h => by
    unfold backS at h
    split at h
    · rcases set_get h with ⟨_, _, z⟩ | ⟨_, z⟩
      · cases z
      · exact backS_ol z
    · exact backS_ol h
theorem wipeS_un {e : List Sl} {ws : List Nat} : ∀ j ∈ ws, ∀ s, (wipeS e ws)[j]? = some s → s = .un := fun j hj s q => by
  rcases wipeS_get q with ⟨_, z⟩ | ⟨m, _⟩
  · exact z
  · exact absurd hj m
section
variable {X : Cx} {g : Gr} {en : En} {W : WX} {elt tg iter : Expr} {ifs : List Expr} {scope : Scope} {own : List (Str × Nat)} {pos : Pos} {it : DA} {t : DG} {tc : DT} {te : DE}
theorem dts_nil : PTs X [] (fun σ H Q => ∃ en, lt g en NoX dYes σ H Q) := ⟨fun pins s σ H Q I ⟨en, F, st, P, R, rs, q, kP, kR⟩ => pts_nil.run pins s σ H Q I (kP true st F H q (Sub.refl _) rs)⟩
theorem dts_one {c : Expr} (h : ∀ en, PT X c (lt g en NoX tc)) : PTs X [c] (fun σ H Q => ∃ en, lt g en NoX tc σ H Q) := pts_one ⟨fun pins s σ H Q I ⟨en, q⟩ => (h en).run pins s σ H Q I q⟩
theorem de_all {e : Expr} (h : ∀ en, PE X e (le g en NoX te)) : PE X e (fun σ H Q => ∃ en, le g en NoX te σ H Q) := ⟨fun pins s σ H Q I ⟨en, q⟩ => (h en).run pins s σ H Q I q⟩
theorem lc_reads (σ : L2.St) (H : Hp) (Q : VK) (h : ll g en W (dLc it t tc te (own.map (·.2))) σ H Q) :
    tLc (li g en W it) (lgv g (own.map (·.2)) t) (fun σ H Q => ∃ en, lt g en NoX tc σ H Q) (fun σ H Q => ∃ en, le g en NoX te σ H Q) (own.map (·.2)) σ H Q := by
  generalize own.map (·.2) = ws at h ⊢
  obtain ⟨F, st, P, R, rs, q, kP, kR⟩ := h
  refine ⟨F, st, _, R, rs, q, fun ds st1 F1 H1 J t1 s1 rs1 w dd hd => ?_, kR⟩
  obtain ⟨rs0, w0, na0⟩ := rs1.newO (ds := []) (vs := []) (by simp only [Reps]) hd
  have e0 := w0.e0
  refine ⟨fun i m H => m = ds.length - i ∧ i ≤ ds.length ∧ ∃ F2 st2 acc va, Sub F1 F2 ∧ Rs g (en.put dd va) F2 (wipe σ ws) H st2 ∧ Reps g F2 acc va ∧ (∀ j ∈ ws, ∀ s, st2.e[j]? = some s → s = .un) ∧ dLcL t tc te ws (ds.drop i) st2 acc (fun acc st2 => P acc (st1.back st2 ws)),
    ⟨_, rfl, Nat.zero_le _, F1, _, [], [], Sub.refl _, (rs0.aside w0 na0).wipe, by simp only [Reps], wipeS_un, t1⟩, ?_⟩
  rintro i m H2 ⟨rfl, hle, F2, st2, acc, va, s2, rs2, ra, hu, q2⟩
  by_cases hlt : i < ds.length
  · refine .inr ⟨w.goes i H2 (s2.trans rs2.w.sub) hlt, fun H => ∃ F3 st3 acc va, Sub F1 F3 ∧ Rs g (en.put dd va) F3 (wipe σ ws) H st3 ∧ Reps g F3 acc va ∧ (∀ j ∈ ws, ∀ s, st3.e[j]? = some s → s = .un) ∧ dLcL t tc te ws (ds.drop (i + 1)) st3 acc (fun acc st2 => P acc (st1.back st2 ws)),
      fun H' z => ⟨_, by omega, rfl, hlt, z⟩, fun x H3 y => ?_⟩
    obtain ⟨d, F3, e1, s3, rs3, r3⟩ := (w.mono s2).item rs2 hlt y
    have e2 : ds.drop i = d :: ds.drop (i + 1) := by
      rw [List.drop_eq_getElem_cons hlt]
      rw [List.getElem?_eq_getElem hlt] at e1
      cases e1; rfl
    rw [e2] at q2
    refine ⟨_, F3, st2, d, _, rs3, r3, q2, fun st4 σ4 F4 H4 q4 s4 rs4 w4 => ⟨by rw [w4]; exact wipe_wipe.trans wipe_wipe.symm |>.trans wipe_wipe, ?_⟩⟩
    refine ⟨_, F4, st4, _, _, rs4, q4, fun b st5 F5 H5 q5 s5 rs5 => ?_, fun _ _ _ _ _ _ _ z => z.elim⟩
    have s15 : Sub F1 F5 := s2.trans (s3.trans (s4.trans s5))
    have ww : wipe σ4 ws = wipe σ ws := w4.trans wipe_wipe
    cases b with
    | false =>
      simp only [Bool.false_eq_true, if_false] at q5 ⊢
      have z := rs5.wipe (ws := ws)
      rw [ww] at z
      exact ⟨F5, _, acc, va, s15, z, ra.mono (s3.trans (s4.trans s5)), wipeS_un, q5⟩
    | true =>
      simp only [if_true] at q5 ⊢
      refine ⟨_, F5, st5, _, _, rs5, q5, fun y st6 v6 F6 H6 q6 s6 rs6 r6 => ?_, fun _ _ _ _ _ _ _ z => z.elim⟩
      obtain ⟨hz, q7⟩ := q6
      have g1 := (rs6.gk (dd, va) (List.mem_cons_self ..)).1
      refine ⟨va, g1, by rw [ra.length]; exact hz, ?_⟩
      have z := (rs6.asideMut (vs' := va ++ [v6]) e0 na0.2).wipe (ws := ws)
      rw [ww] at z
      refine ⟨F6, _, _, _, s15.trans s6, z, Reps.append (ra.mono (s3.trans (s4.trans (s5.trans s6)))) ?_, wipeS_un, q7⟩
      simp only [Reps]
      exact ⟨v6, [], rfl, r6, rfl⟩
  · have e : i = ds.length := by omega
    subst e
    rw [List.drop_length] at q2
    obtain ⟨rs3, ow, na⟩ := rs2.inside e0 na0.2 ra
    have rs4 := rs3.unwipe hu
    refine .inl ⟨w.stops H2 (s2.trans rs2.w.sub), ?_⟩
    have rs5 := Rs.back rs1 s2 rs4 ws
    refine kP _ _ dd va F2 H2 q2 (s1.trans s2) rs5 ow ⟨fun j es e => ?_, na.2⟩
    have e' := backS_ol e
    have nj : j ∉ ws := fun m => by have y := hu j m _ e'; cases y
    rw [← wipe_get (σ := σ) nj]
    exact na.1 j es e'
theorem dl_lc (o : On X g) (hN : X.N.Nodup) (hi : PI X tg iter (li g en W it)) (ok : BlkOk X.N X.env.scope scope own)
    (hg : ∀ (s : Shared) (H : Hp) (C : Addr) (cl : List (Str × Addr)) (fp : List Addr), PG (X.blk s H scope (compEnvC scope cl C X.env) fp) tg (lgv g (own.map (·.2)) t)) (ht : ∀ (s : Shared) (H : Hp) (C : Addr) (cl : List (Str × Addr)) (fp : List Addr), PTs (X.blk s H scope (compEnvC scope cl C X.env) fp) ifs (fun σ H Q => ∃ en, lt g en NoX tc σ H Q))
    (he : ∀ (s : Shared) (H : Hp) (C : Addr) (cl : List (Str × Addr)) (fp : List Addr), ∀ en, PE (X.blk s H scope (compEnvC scope cl C X.env) fp) elt (le g en NoX te)) (hs : ∀ x, foldedSetIterable iter X.env x = pure x := by intro _; rfl) :
    PE X (.ListComp elt [⟨tg, iter, ifs, 0⟩] scope pos) (ll g en W (dLc it t tc te (own.map (·.2)))) :=
  (pe_lc o.calm hN hi ok hg ht (fun s H C cl fp => de_all (he s H C cl fp)) hs).weak lc_reads
/-- name = [..] on one line -/
theorem ds_setLc {i : Nat} {y : Str} {py spos : Pos} (o : On X g) (hN : X.N.Nodup) (hi : PI X tg iter (li g en W it)) (ok : BlkOk X.N X.env.scope scope own)
    (hg : ∀ (s : Shared) (H : Hp) (C : Addr) (cl : List (Str × Addr)) (fp : List Addr), PG (X.blk s H scope (compEnvC scope cl C X.env) fp) tg (lgv g (own.map (·.2)) t)) (ht : ∀ (s : Shared) (H : Hp) (C : Addr) (cl : List (Str × Addr)) (fp : List Addr), PTs (X.blk s H scope (compEnvC scope cl C X.env) fp) ifs (fun σ H Q => ∃ en, lt g en NoX tc σ H Q))
    (he : ∀ (s : Shared) (H : Hp) (C : Addr) (cl : List (Str × Addr)) (fp : List Addr), ∀ en, PE (X.blk s H scope (compEnvC scope cl C X.env) fp) elt (le g en NoX te)) (hy : X.N[i]? = some y := by rfl) (hyl : X.env.scope.names.lookup y = some .local := by rfl)
    (hsw : swapsWith (.ListComp elt [⟨tg, iter, ifs, 0⟩] scope pos) (some (.Name y py)) spos.line X.env = pure true := by rfl) (hs : ∀ x, foldedSetIterable iter X.env x = pure x := by intro _; rfl) :
    PS X (.Assign [.Name y py] (.ListComp elt [⟨tg, iter, ifs, 0⟩] scope pos) spos) (ls g en W (dsSetL i (dLc it t tc te (own.map (·.2))))) := by
  refine PS.weak (ps_setLc o.calm hN hy hyl hsw hi ok hg ht (fun s H C cl fp => de_all (he s H C cl fp)) hs) ?_
  rintro D σ H ⟨F, st, E, rs, q, k⟩
  exact lc_reads σ H _ ⟨F, st, _, E.ex, rs, q, fun ds st1 l vs F1 H1 t1 s1 rs1 w na => k.nx _ _ _ _ t1 s1 (rs1.storeO w na i), k.ex⟩
end
end Dl

set_option maxHeartbeats 3900000
namespace Dl
open PySem
open PySem.Spec
open PyProof.Rows
open L2

/-! ### isinstance -/
def clsT : D → Option Ty
  | .ty n => some (.b n)
  | .cl C => some (.o C)
  | _ => none
def isi1 (g : Gr) (d c : D) : Option Bool := match tyD d, clsT c with
  | some t, some k => isaT g t k
  | _, _ => none
def isiAny (g : Gr) (d : D) : List D → Option Bool
  | [] => some false
  | c :: cs => (isi1 g d c).bind fun b => (isiAny g d cs).map fun b' => b || b'
def isiD (g : Gr) : List D → Option D
  | [d, c] => (isi1 g d c).map .bl
  | _ => none
section
variable {X : Cx} {g : Gr} {en : En} {W : WX}
theorem isa_bb {a c : String} {b : Bool} (h : isaT g (.b a) (.b c) = some b) : PySem.W.kitOne g.K (.type a) (.type c) = some b := by
  unfold isaT at h
  simp only at h
  split at h
  · rename_i hm
    obtain ⟨h1, h2⟩ := hm
    cases h
    refine kit_ty ?_
    have all : (knownB.all fun a => knownB.all fun c => decide (kitB a c = some (a == c || (a == "bool" && c == "int")))) = true := by decide +kernel
    exact of_decide_eq_true (List.all_eq_true.mp (List.all_eq_true.mp all a h1) c h2)
  · cases h
/-- what isinstance asks of a value -/
theorem Rep.kit {pins : List (Addr × Obj)} {σ : L2.St} {H F : Hp} {s : Shared} {d : D} {v : V} {u : Value} {t : Ty} (o : On X g) (I : Inv X pins σ H s) (sF : Sub F H) (r : Rep g F d v) (ru : RelV v u) (ht : tyD d = some t) {k : Ty} {b : Bool} (hk : isaT g t k = some b) :
    ∃ tv, TyV g t tv ∧ ∃ P : Heap → Prop, PySem.W.KitX X.K u tv P ∧ P s.heap ∧ u ≠ .builtin "__main__.__loader__#opaque" := by
  cases d <;> simp only [tyD, Option.some.injEq] at ht <;> try (cases ht)
  all_goals simp only [Rep] at r
  case non => subst r; exact ⟨_, rfl, kit_of I ru (.base .non)⟩
  case bl => subst r; exact ⟨_, rfl, kit_of I ru (.base (.bl _))⟩
  case int => subst r; exact ⟨_, rfl, kit_of I ru (.base (.int _))⟩
  case str => subst r; exact ⟨_, rfl, kit_of I ru (.base (.str _))⟩
  case tup =>
    obtain ⟨a, vs, rfl, q, _⟩ := r
    refine ⟨_, rfl, ?_⟩
    rcases sF.sqT q with (q | ⟨ob, q⟩) | ⟨ob, its, n, q, c, _⟩
    · exact kit_of I ru (.base (.tup q))
    · exact kit_of I ru (.fTuple q)
    · exact kit_of I ru (.kTuple (by rw [o.K]; exact q) c)
  case lst =>
    obtain ⟨a, vs, rfl, q, _⟩ := r
    exact ⟨_, rfl, kit_of I ru (.base (.lst (sF _ _ q)))⟩
  case ob.refl C fs =>
    obtain ⟨a, Ca, dx, gs, rfl, m, q, _⟩ := r
    have f := o.gr.ins C Ca m.2 m.1
    rw [← o.K] at f
    exact ⟨_, ⟨Ca, m.1, rfl⟩, kit_of I ru (.base (.ins (sF _ _ q) f.cl f.ha f.hn f.htk f.hm))⟩
  case er.refl C fs =>
    obtain ⟨a, Ca, dx, gs, rfl, m, q1, q2, _⟩ := r
    have f := o.gr.ers C Ca m.2 m.1
    rw [← o.K] at f
    cases (show u = Value.ref a from ru)
    obtain ⟨⟨vs, sl, h1⟩, _⟩ := (show ObjOk X.prog X.w H s.heap a (erO a Ca dx) from I.hok a _ (sF _ _ q1))
    obtain ⟨mA, ⟨od, _, _, h2, _⟩, _⟩ := (show ObjOk X.prog X.w H s.heap dx (.xd gs) from I.hok dx _ (sF _ _ q2))
    exact ⟨_, ⟨Ca, m.1, rfl⟩, _, PySem.W.kitx_exc f.cl f.ga f.gt f.sub f.ha f.hn f.htk f.hm (ox := { cls := .ref Ca, dict := some dx, data := .fields vs, slots := sl }) (od := some od), ⟨h1, rfl, rfl, h2⟩, fun z => nomatch z⟩
/-- the class asked for, as a value -/
theorem Rep.cls {F : Hp} {c : D} {v : V} {k : Ty} (r : Rep g F c v) (hk : clsT c = some k) : ∃ cv, TyV g k cv ∧ ClsV v cv := by
  cases c <;> simp only [clsT, Option.some.injEq] at hk <;> try (cases hk)
  all_goals simp only [Rep] at r
  · obtain ⟨a, rfl, m⟩ := r
    exact ⟨_, ⟨a, m, rfl⟩, .own a⟩
  · subst r
    exact ⟨_, rfl, .ty _⟩
theorem isi1_ok {F : Hp} {d c : D} {w : V} {b : Bool} (h : isi1 g d c = some b) (r : Rep g F c w) : ∃ t k, tyD d = some t ∧ isaT g t k = some b ∧ ∃ cv, TyV g k cv ∧ ClsV w cv := by
  unfold isi1 at h
  split at h
  · rename_i t k h1 h2
    obtain ⟨cv, q1, q2⟩ := r.cls h2
    exact ⟨t, k, h1, h, cv, q1, q2⟩
  · cases h
theorem call_isiD (o : On X g) : CallD X g en (.builtin "isinstance") (isiD g) := by
  rintro pins s σ' H xs us Q I r ⟨F, σ, st, ds, d, rs, rr, e, k⟩
  unfold isiD at e
  split at e
  · rename_i d c
    obtain ⟨b, e1, rfl⟩ := Option.map_eq_some_iff.mp e
    simp only [Reps] at rr
    obtain ⟨v, _, rfl, r1, w, _, rfl, r2, rfl⟩ := rr
    obtain ⟨u1, u2, rfl, p1, p2⟩ := vals2 r
    obtain ⟨t, kk, h1, h2, cv, h3, h4⟩ := isi1_ok e1 r2
    have e2 := h4.eq p2
    subst e2
    obtain ⟨tv, ht, P, Z, p, hx⟩ := r1.kit o I rs.w.sub p1 h1 h2
    exact PySem.W.kia_one Z I.kIn p (by rw [o.K]; exact o.gr.isa _ _ _ _ _ h2 ht h3) hx fun tk => ⟨.bl b, H, I.tok tk, rfl, k _ F H (Sub.refl _) rs (by simp only [Rep])⟩
  · cases e

/-! ### tuple(..), list(..), repr(..) -/
def tupD : List D → Option D
  | [.lst xs] => some (.tup xs)
  | [.tup xs] => some (.tup xs)
  | _ => none
def lstD : List D → Option D
  | [.lst xs] => some (.lst xs)
  | [.tup xs] => some (.lst xs)
  | _ => none
def isSeq : D → Bool
  | .tup _ => true
  | .lst _ => true
  | _ => false
def reprD : List D → Option D
  | [d] => match toPy d with
    | some p => if p.showable = true ∧ p.hasDict = false ∧ p.shown.length ≤ sizeLine ∧ p.depth + 1 ≤ 100 ∧ isSeq d = true then some (.str p.shown) else none
    | none => none
  | _ => none
theorem call_tupD (o : On X g) : CallD X g en (.type "tuple") tupD := by
  rintro pins s σ' H xs us Q I r ⟨F, σ, st, ds, d, rs, rr, e, k⟩
  unfold tupD at e
  split at e
  · cases e
    simp only [Reps, Rep] at rr
    obtain ⟨_, _, rfl, ⟨a, vs, rfl, q1, t1⟩, rfl⟩ := rr
    exact call_tuple_of pins s σ' H _ us Q I r ⟨a, vs, rfl, .inl ⟨.of (rs.w.sub _ _ q1), rs.tup (F0 := F) t1 k⟩⟩
  · cases e
    simp only [Reps, Rep] at rr
    obtain ⟨_, _, rfl, ⟨a, vs, rfl, q1, t1⟩, rfl⟩ := rr
    exact call_tuple_of pins s σ' H _ us Q I r ⟨a, vs, rfl, .inr ⟨by rw [o.K]; exact rs.w.sub.sqT q1, k _ F H (Sub.refl _) rs (by simp only [Rep]; exact ⟨a, vs, rfl, q1, t1⟩)⟩⟩
  · cases e
theorem call_lstD (o : On X g) : CallD X g en (.type "list") lstD := by
  rintro pins s σ' H xs us Q I r ⟨F, σ, st, ds, d, rs, rr, e, k⟩
  unfold lstD at e
  split at e
  · cases e
    simp only [Reps, Rep] at rr
    obtain ⟨_, _, rfl, ⟨a, vs, rfl, q1, t1⟩, rfl⟩ := rr
    exact call_list_of pins s σ' H _ us Q I r ⟨a, vs, rfl, .inl (.of (rs.w.sub _ _ q1)), rs.lst t1 k⟩
  · cases e
    simp only [Reps, Rep] at rr
    obtain ⟨_, _, rfl, ⟨a, vs, rfl, q1, t1⟩, rfl⟩ := rr
    exact call_list_of pins s σ' H _ us Q I r ⟨a, vs, rfl, .inr (by rw [o.K]; exact rs.w.sub.sqT q1), rs.lst t1 k⟩
  · cases e
theorem call_reprD (o : On X g) (gd : X.A.guards = some []) : CallD X g en (.builtin "repr") reprD := by
  rintro pins s σ' H xs us Q I r ⟨F, σ, st, ds, d, rs, rr, e, k⟩
  unfold reprD at e
  split at e
  · rename_i d
    split at e
    · rename_i p hp
      split at e
      · rename_i hz
        obtain ⟨z1, z2, z3, z4, n1⟩ := hz
        cases e
        simp only [Reps] at rr
        obtain ⟨v, _, rfl, r1, rfl⟩ := rr
        cases r with
        | cons ru rt =>
          cases rt
          rename_i u
          have dp : Dp X.K H v p := by rw [o.K]; exact r1.dp rs.w.sub hp
          obtain ⟨as, rd⟩ := Dp.reads I p v u dp ru
          have isRef : ∃ a, u = .ref a := by
            cases d <;> simp only [toPy] at hp <;> try (cases hp)
            · cases n1
            · cases n1
            · cases n1
            · cases n1
            · simp only [Rep] at r1; obtain ⟨a, _, rfl, _⟩ := r1; exact ⟨a, ru⟩
            · simp only [Rep] at r1; obtain ⟨a, _, rfl, _⟩ := r1; exact ⟨a, ru⟩
          obtain ⟨a, rfl⟩ := isRef
          refine repr_of_reads' rd z1 (PyData.noDict_hsm z2) gd (by have := o.hu; omega) (fun _ _ e => e) (fun h' u tk hk => ⟨.str p.shown, H, I.kept hk, ⟨u, rfl⟩, k _ F H (Sub.refl _) rs (by simp only [Rep])⟩) z3
      · cases e
    · cases e
  · cases e
end
end Dl

set_option maxHeartbeats 3900000
namespace Dl
open PySem
open PySem.Spec
open PyProof.Rows
open L2

/-! ### defs: their promises, their calls -/
/-- a def keeps its promise; gb: only where no repr is under way -/
structure FnR (gb : Bool) (P : Program) (w : World) (K : PySem.W.Frag) (mg : Str → Option Value) (base : Heap) (k : Nat) (f : Addr) (fd : FuncData) (ps : List Str) (sp : Sp) : Prop where
  len : ∀ vs H Q E, sp vs H Q E → vs.length = ps.length
  run : ∀ (A : Around) (outer : List Env) (s : Shared) (H : Hp) (args : Args) (us : List Value) (vs : List V) (Q : VK) (E : XK), (gb = true → A.guards = some []) → Room k A → Env0 P w K mg base A outer s H → BindsTo s fd args (ps.zip us) →
    Vals vs us → sp vs H Q E → codeAny (model P w) A (.call (.ref f) args) (CR (L2.CX P w) outer P w H s Q E) s
/-- a context with all that the rules ask -/
structure Cn (gb : Bool) (X : Cx) (g : Gr) (W : WX) (k : Nat) : Prop where
  o : On X g
  tk : Takes X W
  hr : Room k X.A
  nd : X.N.Nodup
  gd : gb = true → X.A.guards = some []
/-- a def by its name -/
structure Fd (gb : Bool) (P : Program) (w : World) (K : PySem.W.Frag) (mg : Str → Option Value) (base : Heap) (g : Gr) (k : Nat) (x : Str) (f : Addr) (fd : FuncData) (ps : List Str) (sp : DSp) : Prop where
  fn : FnR gb P w K mg base k f fd ps (lsp g sp)
  gl : mg x = some (.ref f)
  kp : PySem.W.keepIn K (.ref f) = true
  bd : Binds K fd ps []
section
variable {gb gb' : Bool} {P : Program} {w : World} {K : PySem.W.Frag} {mg : Str → Option Value} {base : Heap} {k : Nat} {f : Addr} {fd : FuncData} {ps : List Str} {sp : Sp}
theorem FnR.mono {j : Nat} (F : FnR gb P w K mg base j f fd ps sp) (h : j ≤ k) (hg : gb = true → gb' = true) : FnR gb' P w K mg base k f fd ps sp :=
  ⟨F.len, fun A outer s H args us vs Q E g1 hr => F.run A outer s H args us vs Q E (fun z => g1 (hg z)) (hr.mono h)⟩
theorem FnR.imp {sp' : Sp} (F : FnR gb P w K mg base k f fd ps sp) (h : ∀ vs H Q E, sp' vs H Q E → sp vs H Q E) : FnR gb P w K mg base k f fd ps sp' :=
  ⟨fun vs H Q E z => F.len vs H Q E (h _ _ _ _ z), fun A outer s H args us vs Q E g1 hr e0 b r q => F.run A outer s H args us vs Q E g1 hr e0 b r (h _ _ _ _ q)⟩
theorem FnR.of (F : FnOk P w K mg base (L2.CX P w) k f fd ps sp) : FnR gb P w K mg base k f fd ps sp := ⟨F.len, fun A outer s H args us vs Q E _ hr => F.run A outer s H args us vs Q E hr⟩
theorem FnR.ok (F : FnR false P w K mg base k f fd ps sp) : FnOk P w K mg base (L2.CX P w) k f fd ps sp := ⟨F.len, fun A outer s H args us vs Q E hr => F.run A outer s H args us vs Q E (fun z => by cases z) hr⟩
end
section
variable {gb gb' : Bool} {X : Cx} {g : Gr} {en : En} {W : WX} {k k' n : Nat} {f : Addr} {fd : FuncData} {ps ks : List Str} {sp : DSp} {x : Str} {e : Expr} {es : List Expr} {kws : List Keyword} {t tk : DA} {p pos kpos : Pos} {nm : Option Str} {te : DE} {is : List Nat}
theorem run_R {pins : List (Addr × Obj)} {σ : L2.St} {H : Hp} {s : Shared} {Q : VK} {args : Args} {us : List Value} {vs : List V} {sp : Sp} (B : Cn gb X g W k) (F : FnR gb X.prog X.w X.K X.mg X.base k f fd ps sp) (hb : BindsTo s fd args (ps.zip us))
    (I : Inv X pins σ H s) (r : Vals vs us) (h : sp vs H Q (fun cls dd H' => W cls dd σ H')) : codeAny (model X.prog X.w) X.A (.call (.ref f) args) (fun r s' => match r with
      | .ok (.ret u) => EP X pins σ Q u s'
      | .ok _ => False
      | .error e => X.xe e s') s := by
  refine codeAny_mono (F.run X.A X.stack s H args us vs Q _ B.gd B.hr I.env0 hb r h) fun r s' hq => ?_
  cases r with
  | error e => exact passAt B.tk σ pins H s e s' I hq
  | ok fl =>
    cases fl with
    | ret u => exact I.after hq
    | next => exact False.elim hq
    | brk => exact False.elim hq
    | cont => exact False.elim hq
theorem call_R {pins : List (Addr × Obj)} {σ : L2.St} {H : Hp} {s : Shared} {Q : VK} {us ws : List Value} {kw : List (Str × Value)} {vs : List V} {sp : Sp} (B : Cn gb X g W k) (F : FnR gb X.prog X.w X.K X.mg X.base k f fd ps sp) (hb : BindsTo s fd ⟨us, kw⟩ (ps.zip ws))
    (I : Inv X pins σ H s) (r : Vals vs ws) (h : sp vs H Q (fun cls dd H' => W cls dd σ H')) : wpAny (model X.prog X.w) X.A (call (.ref f) us kw) (EP X pins σ Q) X.xe s := by
  refine wpAny_call (codeAny_mono (run_R B F hb I r h) fun r s' hq => ?_)
  cases r with
  | error e => exact hq
  | ok fl =>
    cases fl with
    | ret u => exact hq
    | next => exact False.elim hq
    | brk => exact False.elim hq
    | cont => exact False.elim hq
/-- f(e, ..) -/
theorem de_fn (B : Cn gb X g W k') (F : Fd gb' X.prog X.w X.K X.mg X.base g k x f fd ps sp) (ha : PA X (e :: es) (la g en W t)) (hk : k ≤ k' := by decide) (hgb : gb' = true → gb = true := by first | exact fun z => nomatch z | exact fun _ => rfl | exact id) (hg : Gl X x := by rfl) (hdb : (x == ("__debug__" : Str)) = false := by decide)
    (he : starEach (e :: es) X.env = (false, eval e X.env) :: starEach es X.env := by rfl) (hpl : (backTo pos (starEach es X.env)).any (·.1) = false := by rfl) : PE X (.Call (.Name x p) (e :: es) [] pos) (le g en W (dCall sp t)) := by
  refine ⟨fun pins s σ H Q I ⟨F0, st, P, R, rs, q, kP, kR⟩ => ?_⟩
  refine wpAny_Call_Name_kw (ld_glob I hg F.gl ?_ hdb)
  refine PySem.W.callWith_K (h₀ := X.base) I.ok.mod.kin F.kp (thn (ha.run pos pins s σ H (fun vs H1 => lsp g sp vs H1 Q (fun cls dd H' => W cls dd σ H')) I ⟨F0, st, _, R, rs, q, fun ds st1 vs F1 H1 t1 s1 rs1 r1 => ?_, kR⟩) fun us s1 ⟨vs, H1, I1, r, q1⟩ => ⟨I1.kIn, ?_⟩) he hpl
  · exact lsp_call rs1 r1 t1 (fun d st2 v F2 H2 p s2 => kP d st2 v F2 H2 p (s1.trans s2)) (kR.sub s1)
  · have FF := F.fn.mono hk hgb
    have b := F.bd s1 us I1.kIn (by rw [List.append_nil, ← r.length]; exact FF.len _ _ _ _ q1)
    rw [List.append_nil] at b
    exact call_R B FF b I1 r q1
/-- f() -/
theorem de_fn0 (B : Cn gb X g W k') (F : Fd gb' X.prog X.w X.K X.mg X.base g k x f fd ps sp) (hk : k ≤ k' := by decide) (hgb : gb' = true → gb = true := by first | exact fun z => nomatch z | exact fun _ => rfl | exact id) (hg : Gl X x := by rfl) (hdb : (x == ("__debug__" : Str)) = false := by decide) : PE X (.Call (.Name x p) [] [] pos) (le g en W (dCall sp dNil)) := by
  refine ⟨fun pins s σ H Q I ⟨F0, st, P, R, rs, q, kP, kR⟩ => ?_⟩
  refine wpAny_Call_Name_kw (ld_glob I hg F.gl ?_ hdb)
  refine PySem.W.callWith_KW0 (h₀ := X.base) I.ok.mod.kin F.kp (by rfl) (wpAny_evalAll_nil ⟨I.kIn, ?_⟩) (by rfl)
  have q1 : lsp g sp [] H Q (fun cls dd H' => W cls dd σ H') := lsp_call rs (ds := []) (by simp only [Reps]) q kP kR
  have FF := F.fn.mono hk hgb
  have b := F.bd s [] I.kIn (by have z := FF.len _ _ _ _ q1; simpa using z)
  exact call_R B FF b I .nil q1
/-! ### keywords -/
def pick {α : Type} (is : List Nat) (us : List α) : List α := is.filterMap fun i => us[i]?
def lk (g : Gr) (en : En) (W : WX) (t : DA) : TA := la g en W t
theorem dk_nil : PK X [] (la g en W dNil) := by
  refine ⟨fun pos pins s σ H Q I ⟨F, st, P, R, rs, q, kP, kR⟩ => pk_nil.run pos pins s σ H Q I ?_⟩
  exact kP [] st [] F H q (Sub.refl _) rs (by simp only [Reps])
theorem dk_cons (ha : PE X e (le g en W te)) (hr : PK X kws (la g en W t)) : PK X (⟨nm, e, kpos⟩ :: kws) (la g en W (dCons te t)) := by
  refine ⟨fun pos pins s σ H Q I ⟨F, st, P, R, rs, q, kP, kR⟩ => (pk_cons ha hr).run pos pins s σ H Q I ?_⟩
  refine ⟨F, st, _, R, rs, q, fun d1 st1 v1 F1 H1 t1 s1 rs1 r1 => ?_, kR⟩
  refine ⟨F1, st1, _, R, rs1, t1, fun ds st2 vs F2 H2 t2 s2 rs2 r2 => ?_, kR.sub s1⟩
  refine kP _ _ _ F2 H2 t2 (s1.trans s2) rs2 ?_
  simp only [Reps]
  exact ⟨v1, vs, rfl, r1.mono s2, r2⟩
theorem Reps.pick {F : Hp} {ds : List D} {vs : List V} (h : Reps g F ds vs) : ∀ is : List Nat, Reps g F (Dl.pick is ds) (Dl.pick is vs)
  | [] => by simp only [Dl.pick, List.filterMap_nil, Reps]
  | i :: is => by
    have ih := Reps.pick h is
    unfold Dl.pick at ih ⊢
    rw [List.filterMap_cons, List.filterMap_cons]
    cases e : ds[i]? with
    | none =>
      have e2 : vs[i]? = none := by
        rw [List.getElem?_eq_none_iff] at e ⊢
        rw [h.length]; exact e
      rw [e2]; exact ih
    | some d =>
      obtain ⟨v, e2, r⟩ := h.get e
      rw [e2]
      simp only [Reps]
      exact ⟨v, _, rfl, r, ih⟩
theorem vals_pick {vs : List V} {us : List Value} (h : Vals vs us) : ∀ is : List Nat, Vals (pick is vs) (pick is us)
  | [] => .nil
  | i :: is => by
    have ih := vals_pick h is
    unfold pick at ih ⊢
    rw [List.filterMap_cons, List.filterMap_cons]
    have hl := h.length
    by_cases hi : i < vs.length
    · have hi2 : i < us.length := by rw [← hl]; exact hi
      rw [List.getElem?_eq_getElem hi, List.getElem?_eq_getElem hi2]
      obtain ⟨u, e1, e2⟩ := h.get (List.getElem?_eq_getElem hi)
      rw [List.getElem?_eq_getElem hi2] at e1
      cases e1
      exact .cons e2 ih
    · have hi2 : ¬ i < us.length := by rw [← hl]; exact hi
      rw [List.getElem?_eq_none (by omega), List.getElem?_eq_none (by omega)]
      exact ih
/-- n values, then the keywords ks: is puts them in the parameters' order -/
def KwB (fd : FuncData) (ps : List Str) (n : Nat) (ks : List Str) (is : List Nat) : Prop := ∀ us ws : List Value, us.length = n → ws.length = ks.length → bindArgs fd ⟨us, ks.zip ws⟩ = pure (ps.zip (pick is (us ++ ws)))
def dCallK (sp : DSp) (n m : Nat) (is : List Nat) (ta tk : DA) : DE := fun st P R => ta st (fun ds st1 => tk st1 (fun zs st2 => ds.length = n ∧ zs.length = m ∧ sp (pick is (ds ++ zs)) st2.n (fun d n => P d ⟨st2.e, n⟩) (fun x n => R x ⟨st2.e, n⟩)) R) R
/-- f(k = v, ..) -/
theorem de_fnK0 (B : Cn gb X g W k') (F : Fd gb' X.prog X.w X.K X.mg X.base g k x f fd ps sp) (hb : KwB fd ps 0 ks is) (hkw : PK X kws (la g en W tk)) (hk : k ≤ k' := by decide) (hgb : gb' = true → gb = true := by first | exact fun z => nomatch z | exact fun _ => rfl | exact id) (hall : (backToKw pos (keywordEach kws X.env)).all (·.1.isSome) = true := by rfl)
    (hks : (backToKw pos (keywordEach kws X.env)).filterMap (·.1) = ks := by rfl) (hg : Gl X x := by rfl) (hdb : (x == ("__debug__" : Str)) = false := by decide) (hpl : ((backTo pos (starEach [] X.env)).any (·.1) || (backToKw pos (keywordEach kws X.env)).any (·.1.isNone)) = false := by rfl) :
    PE X (.Call (.Name x p) [] kws pos) (le g en W (dCallK sp 0 ks.length is dNil tk)) := by
  refine ⟨fun pins s σ H Q I ⟨F0, st, P, R, rs, q, kP, kR⟩ => ?_⟩
  refine wpAny_Call_Name_kw (ld_glob I hg F.gl ?_ hdb)
  refine PySem.W.callWith_KW0 (h₀ := X.base) I.ok.mod.kin F.kp hall (thn (hkw.run pos pins s σ H (fun vs H1 => vs.length = ks.length ∧ lsp g sp (pick is vs) H1 Q (fun cls dd H' => W cls dd σ H')) I ⟨F0, st, _, R, rs, q, fun ds st1 vs F1 H1 t1 s1 rs1 r1 => ?_, kR⟩) fun us s1 ⟨vs, H1, I1, r, l1, q1⟩ => ⟨I1.kIn, ?_⟩) hpl
  · obtain ⟨_, l2, t2⟩ := t1
    exact ⟨by rw [r1.length]; exact l2, lsp_call rs1 (r1.pick is) t2 (fun d st2 v F2 H2 p s2 => kP d st2 v F2 H2 p (s1.trans s2)) (kR.sub s1)⟩
  · rw [hks]
    exact call_R B (F.fn.mono hk hgb) (.of_eq (hb [] us rfl (by rw [← r.length]; exact l1))) I1 (vals_pick r is) q1
end
/-! ### the rule of a def -/
/-- a def's slots at its entry -/
def slots (N : List Str) (ds : List D) : List Sl := ds.map Sl.fz ++ List.replicate (N.length - ds.length) .un
abbrev DX (P : Program) (w : World) (K : PySem.W.Frag) (mg : Str → Option Value) (base : Heap) (N : List Str) (qual : Str) (scope : Scope) (f : Addr) (cdv : Value) (A : Around) (outer : List Env) (s : Shared) (H : Hp) (E : XK) : Cx :=
  cxOf (L2.CX P w) P w K mg base N qual scope f cdv A outer s H E
abbrev WE (E : XK) : WX := fun cls dd _ H' => E cls dd H'
section
variable {gb : Bool} {P : Program} {w : World} {K : PySem.W.Frag} {mg : Str → Option Value} {base : Heap} {k : Nat} {x qual : Str} {params : Arguments} {body : List Stmt} {scope : Scope} {dvs : List V} {kws : List (Str × V)} {f : Addr} {fd : FuncData} {N ps : List Str} {g : Gr} {sp : DSp} {t : DB}
theorem get_start {N : List Str} {ds : List D} {i : Nat} {s : Sl} (h : (slots N ds)[i]? = some s) : (∃ d, ds[i]? = some d ∧ s = .fz d) ∨ s = .un := by
  unfold slots at h
  by_cases hi : i < ds.length
  · rw [List.getElem?_append_left (by rw [List.length_map]; exact hi), List.getElem?_map, List.getElem?_eq_getElem hi] at h
    cases h
    exact .inl ⟨_, List.getElem?_eq_getElem hi, rfl⟩
  · rw [List.getElem?_append_right (by rw [List.length_map]; omega)] at h
    exact .inr (List.eq_of_mem_replicate (List.mem_of_getElem? h))
theorem rs_start {F H : Hp} {ds : List D} {vs : List V} {n : Nat} (wd : Wd g F H n) (r : Reps g F ds vs) (hl : ds.length ≤ N.length) : Rs g ⟨H, F, []⟩ F (L2.start N vs) H ⟨slots N ds, n⟩ := by
  have hv := r.length
  refine ⟨wd, Sub.refl _, wd.cel, Keep.refl _ _, fun a e => e, fun a o e => .inl e, ?_, fun i d e => ?_, fun i es e => ?_, fun i j es fs l _ e => ?_, fun q hq => by cases hq⟩
  · show (slots N ds).length = (L2.start N vs).length
    unfold slots L2.start
    simp only [List.length_append, List.length_map, List.length_replicate, hv]
  · rcases get_start e with ⟨d', e1, e2⟩ | e2
    · cases e2
      obtain ⟨v, e3, q⟩ := r.get e1
      refine ⟨v, ?_, q⟩
      have hi : i < vs.length := (List.getElem?_eq_some_iff.mp e3).1
      unfold L2.start
      rw [List.getElem?_append_left (by rw [List.length_map]; exact hi), List.getElem?_map, e3]
      rfl
    · cases e2
  · rcases get_start e with ⟨_, _, e2⟩ | e2 <;> cases e2
  · rcases get_start e with ⟨_, _, e2⟩ | e2 <;> cases e2
/-- at the body's start: the body's reading gives the promise -/
theorem body_D {E : XK} {F H : Hp} {ds : List D} {vs : List V} {n : Nat} {Q : VK} {PP : D → Nat → Prop} {RR : X → Nat → Prop} (wd : Wd g F H n) (r : Reps g F ds vs) (hl : ds.length ≤ N.length)
    (hQ : ∀ d n' v F' H', PP d n' → Sub F F' → Wd g F' H' n' → Keep g H H' → (∀ a, Nw H' a → Nw H a) → (∀ a o, F' a = some o → F a = some o ∨ Nw H a) → Rep g F' d v → Q v H')
    (hE : ∀ x n' cls dd F' H', RR x n' → Sub F F' → Wd g F' H' n' → Keep g H H' → (∀ a, Nw H' a → Nw H a) → (∀ a o, F' a = some o → F a = some o ∨ Nw H a) → RepX g F' H' x cls dd → E cls dd H')
    (ht : t ⟨slots N ds, n⟩ { nx := fun st => PP .non st.n, rt := fun d st => PP d st.n, ex := fun x st => RR x st.n }) : ls g ⟨H, F, []⟩ (WE E) t { nx := fun _ H' => Q .non H', rt := Q } (L2.start N vs) H := by
  refine ⟨F, _, _, rs_start wd r hl, ht, fun st σ' F' H' p s rs => ?_, fun _ _ _ _ z => z.elim, fun _ _ _ _ z => z.elim, fun d st v σ' F' H' p s rs rr => ?_, fun x st cls dd σ' F' H' p s rs rr => ?_⟩
  · exact hQ .non st.n .non F' H' p s rs.w rs.old rs.dom rs.new (by simp only [Rep])
  · exact hQ d st.n v F' H' p s rs.w rs.old rs.dom rs.new rr
  · exact hE x st.n cls dd F' H' p s rs.w rs.old rs.dom rs.new rr
/-- cdv is the code of the def at f -/
def CdOf (K : PySem.W.Frag) (f : Addr) (cdv : Value) : Prop := ∃ (oc : Value) (od : Option Addr) (fd : FuncData) (osl : Array (Option Value)), K.lookup f = some ⟨oc, od, .func fd, osl⟩ ∧ fd.code = cdv
/-- THE RULE -/
theorem fn_D (F : FunD K x qual params body scope dvs kws f fd) (S : FnScope N ps scope) (hK : g.K = K) (hmg : g.mg = mg) (gr : GrF g) (hl : ∀ ds n PP RR, sp ds n PP RR → ds.length = ps.length)
    (hb : ∀ (cdv : Value) (A : Around) (outer : List Env) (s : Shared) (H : Hp) (E : XK) (en : En), CdOf K f cdv → Cn gb (DX P w K mg base N qual scope f cdv A outer s H E) g (WE E) k → PSs (DX P w K mg base N qual scope f cdv A outer s H E) body (ls g en (WE E) t))
    (hp : ∀ ds n PP RR, sp ds n PP RR → t ⟨slots N ds, n⟩ { nx := fun st => PP .non st.n, rt := fun d st => PP d st.n, ex := fun x st => RR x st.n }) : FnR gb P w K mg base (k + 1) f fd ps (lsp g sp) := by
  obtain ⟨oc, od, dV, kV, doc, pm, an, cdv, ct, osl, rfl, lk, hcd, _, _⟩ := F.ex
  have hlen : ps.length ≤ N.length := by
    have z := congrArg List.length S.pre
    rw [List.length_take] at z
    omega
  refine ⟨fun vs H Q E h => ?_, fun A outer s H args us vs Q E hg hr e0 b r h => ?_⟩
  · obtain ⟨F0, ds, n, PP, RR, _, rr, q, _⟩ := h
    rw [rr.length]; exact hl _ _ _ _ q
  · obtain ⟨F0, ds, n, PP, RR, wd, rr, q, hQ, hE⟩ := h
    have h1 := hl _ _ _ _ q
    refine LamX.run_ofS lk hcd S hr e0 b r (by rw [rr.length]; exact h1) fun hr' => ⟨ls g ⟨H, F0, []⟩ (WE E) t, hb cdv A outer s H E _ ⟨_, _, _, _, lk, rfl⟩ ⟨⟨hK.symm, hmg.symm, rfl, ?_, gr⟩, takes_of rfl rfl rfl rfl, hr', S.nd, fun z => ?_⟩, body_D wd rr (by rw [h1]; exact hlen) hQ hE (hp _ _ _ _ q)⟩
    · have z := hr'.un
      show _ + 128 < cLine
      have : (A.deeper (envOfC qual scope s.heap.objs.size f cdv)).units + 16 * k + 200 < cLine := z
      exact Nat.lt_of_le_of_lt (by show (A.deeper (envOfC qual scope s.heap.objs.size f cdv)).units + 128 ≤ (A.deeper (envOfC qual scope s.heap.objs.size f cdv)).units + 16 * k + 200; omega) this
    · exact hg z
end
end Dl

set_option maxHeartbeats 3900000
namespace Dl
open PySem
open PySem.Spec
open PyProof.Rows
open L2

/-! ### an own exception's __init__ that says super().__init__(..) -/
theorem rev_look : ∀ {ps : List Str} {us : List Value} {i : Nat} {x : Str} {u : Value}, ps.Nodup → ps[i]? = some x → us[i]? = some u → (ps.zip us).reverse.lookup x = some u
  | [], _, _, _, _, _, h, _ => by cases h
  | _ :: _, [], _, _, _, _, _, h => by cases h
  | p :: ps, v :: us, 0, x, u, nd, h1, h2 => by
    cases h1; cases h2
    rw [List.zip_cons_cons, List.reverse_cons, List.lookup_append]
    have hn : (ps.zip us).reverse.lookup p = none := by
      rw [List.lookup_eq_none_iff]
      intro q hq
      have hm := (List.of_mem_zip (List.mem_reverse.mp hq)).1
      have hp := (List.nodup_cons.mp nd).1
      simp only [bne_iff_ne, ne_eq]
      intro e
      exact hp (by have : p = q.1 := by simpa using e
                   rw [this]; exact hm)
    rw [hn]
    simp [List.lookup]
  | p :: ps, v :: us, i + 1, x, u, nd, h1, h2 => by
    rw [List.zip_cons_cons, List.reverse_cons, List.lookup_append, rev_look (List.nodup_cons.mp nd).2 h1 h2]
    rfl
/-- what the written part says of such an __init__: its function object at f, its class D by the cell at cc, its code at cd -/
structure SupF (P : Program) (K : PySem.W.Frag) (q : Str) (params : Arguments) (body : List Stmt) (scope : Scope) (f D cc cd : Addr) (fd : FuncData) : Prop where
  fn : ∃ (oc : Value) (od : Option Addr) (dV kV doc pm : Value) (an : Option Addr) (ct : Value) (osl : Array (Option Value)), fd = PySem.W.ksFn "__init__" q params body scope dV kV doc pm an (.ref cd) ct cc ∧ K.lookup f = some ⟨oc, od, .func fd, osl⟩
  code : PySem.W.codeIn K (.ref cd) q = true
  rec_ : ∃ (ccl : Value) (cdd : Option Addr) (vs : Array Value) (ccs : Array (Option Value)) (file : Str) (tf : Tok), K.lookup cd = some ⟨ccl, cdd, .fields vs, ccs⟩ ∧ vs[2]? = some (.str file tf) ∧ ((P.main.file : Str) == file) = true
  cell : ∃ (cl : Value) (cld : Option Addr) (csl : Array (Option Value)), K.lookup cc = some ⟨cl, cld, .cell (some (.ref D)), csl⟩
  cls : ∃ cdD, PySem.W.clsIn K D = some cdD
  sup : PySem.W.nsIn K mainGlobals "super" = some none
  top : (P.main.scope.names.lookup ("super" : Str)).isSome = false
  opq : PySem.W.nsIn K cStatics "thirdparty.any" = some none
/-- .. of the class at C whose instance is made -/
structure SupC (K : PySem.W.Frag) (C D : Addr) (ps : List Str) : Prop where
  ox : OexC K C
  sub : PySem.W.mroIn K C (.ref D) = some true
  nxt : PySem.W.ks_superIn K C D "__init__" = some (some (.builtin "ValueError.__init__"))
  ve : PySem.W.subIn K (.ref C) (.type "ValueError") = some true
  no : ∀ p ∈ ps, PySem.W.findIn K (.ref C) p = some none
/-- the context of the body -/
def inCx (P : Program) (w : World) (K : PySem.W.Frag) (mg : Str → Option Value) (base : Heap) (N : List Str) (q : Str) (scope : Scope) (f cd cc : Addr) (A : Around) (outer : List Env) (s : Shared) (H : Hp) (E : XK) : Cx where
  prog := P
  w := w
  K := K
  mg := mg
  base := base
  A := A.deeper (PySem.W.ksEnv q scope s.heap.objs.size f (.ref cd) cc)
  N := N
  s_0 := s
  H_0 := H
  env := PySem.W.ksEnv q scope s.heap.objs.size f (.ref cd) cc
  outer := outer
  stack := PySem.W.ksEnv q scope s.heap.objs.size f (.ref cd) cc :: outer
  ex := []
  calm := true
  fn := fun _ => false
  pn := []
  xe := fun e s' => wpAny (model P w) (A.deeper (PySem.W.ksEnv q scope s.heap.objs.size f (.ref cd) cc)) (leaving (PySem.W.ksEnv q scope s.heap.objs.size f (.ref cd) cc) e) (fun _ s'' => L2.CX P w outer H s E e s'') (fun e' s'' => L2.CX P w outer H s E e' s'') s'
/-- such a def's names: its parameters, super, __class__ -/
structure SupS (N : List Str) (scope : Scope) : Prop where
  kind : scope.kind = .function
  co : scope.isCoroutine = false
  gen : scope.isGenerator = false
  nd : N.Nodup
  par : ∀ x ∈ N, scope.names.lookup x = some .local
  nocell : ∀ y ∈ scope.names, y.2 ≠ .cell
  free : ∀ x, scope.names.lookup x = some .free → x = "__class__"
  vis : ∀ (i : Nat) x, N[i]? = some x → scope.names.lookup x = some .local
  sk : scope.names.lookup ("super" : Str) = some .globalImplicit
  ck : scope.names.lookup ("__class__" : Str) = some .free
section
variable {P : Program} {w : World} {K : PySem.W.Frag} {mg : Str → Option Value} {base : Heap} {N : List Str} {q : Str} {scope : Scope} {params : Arguments} {body : List Stmt} {f cd cc D : Addr} {A : Around} {outer : List Env} {s s1 : Shared} {H : Hp} {E : XK} {us : List Value} {vs : List V} {fd : FuncData} {h₀ : Heap} {tk : Nat}
theorem in_start (S : SupS N scope) (F : SupF P K q params body scope f D cc cd fd) (hd : A.handled = none) (e0 : Env0 P w K mg base A outer s H) (hl : vs.length = N.length) (r : Vals vs us)
    (hns : h₀.Ns s.heap.objs.size (fun x => (N.zip us).reverse.lookup x)) (kp : ∀ b o, s.heap.get? b = some o → h₀.get? b = some o) :
    Inv (inCx P w K mg base N q scope f cd cc A outer s H E) [] (vs.map some) H { s with heap := h₀, toks := tk } := by
  obtain ⟨cl, cld, csl, hcell⟩ := F.cell
  have cb := e0.mod.kin _ _ hcell
  have one : ∀ {x : Str} {c : Addr}, (PySem.W.ksEnv q scope s.heap.objs.size f (.ref cd) cc).cells.lookup x = some c → x = "__class__" ∧ c = cc := fun {x c} e => by
    have e' : (match x == ("__class__" : Str) with | true => some cc | false => none) = some c := e
    cases z : (x == ("__class__" : Str)) with
    | true => rw [z] at e'; exact ⟨beq_iff_eq.mp z, (Option.some.inj e').symm⟩
    | false => rw [z] at e'; cases e'
  refine ⟨⟨e0.mod, S.kind, rfl, rfl, Nat.le_refl _, fun x y c e1 e2 => (one e1).1.trans (one e2).1.symm, fun x hx => ?_, fun x c z _ => (by cases (show false = true from z)), fun _ => hd, Around.frames_deeper e0.frames, .inr ⟨rfl, rfl⟩, fun b z => absurd (show b ∈ ([] : List Addr) from z) (by simp),
      e0.bs, e0.bsz, fun b _ _ z => absurd (show b ∈ ([] : List Addr) from z) (by simp), fun b z => absurd (show b ∈ ([] : List Addr) from z) (by simp), e0.funs, e0.frf⟩,
    rfl, e0.bare, Un.kept kp, ⟨_, hns, fun i x v e1 e2 e3 => ?_⟩, fun x c e => ?_, e0.hok.fresh (Nat.le_refl _), fun x c e => ?_, fun p hp => absurd (show p ∈ ([] : List (Addr × Obj)) ++ [] from hp) (by simp), e0.hok.kept kp, by rw [List.length_map]; exact hl⟩
  · have hx : scope.names.lookup x = some .cell ∨ scope.names.lookup x = some .free := hx
    rcases hx with hx | hx
    · exact absurd rfl (S.nocell _ (PySem.mem_of_lookup hx))
    · rw [S.free x hx]; exact ⟨cc, rfl⟩
  · have hv : vs[i]? = some v := by
      rw [List.getElem?_map] at e2
      cases z : vs[i]? with
      | none => rw [z] at e2; cases e2
      | some y => rw [z] at e2; cases e2; rfl
    obtain ⟨u, e4, e5⟩ := r.get hv
    exact ⟨u, e5, .inl ⟨S.vis i x e1, rev_look S.nd e1 e4⟩⟩
  · obtain ⟨_, rfl⟩ := one e
    exact ⟨_, _, kp _ _ (e0.bs _ _ cb).1, rfl⟩
  · obtain ⟨_, rfl⟩ := one e
    exact (e0.bs _ _ cb).2
/-- super().__init__(e, ..): nothing of it is told -/
theorem st_super {pins : List (Addr × Obj)} {σ : L2.St} {Hn : Hp} {sn : Shared} {a C : Addr} {e : Expr} {es : List Expr} {t : TA} {ar : Arg} {p0 p1 p2 pos : Pos} {Qn : Hp → Prop} (S : SupS N scope) (F : SupF P K q params body scope f D cc cd fd) {ps : List Str} (T : SupC K C D ps)
    (hp : (params.posonlyargs ++ params.args).head? = some ar) (hN : N[0]? = some ar.arg) (hσ : σ[0]? = some (some (.ref a))) (I : Inv (inCx P w K mg base N q scope f cd cc A outer s H E) pins σ Hn sn) (ea : Hn a = some (exo a C none))
    (ha : PA (inCx P w K mg base N q scope f cd cc A outer s H E) (e :: es) t) (h : t σ Hn fun vs H1 => vs.length ≤ 1000 ∧ H1 a = some (exo a C none) ∧ Qn H1) (hgm : mg "super" = none)
    (he : starEach (e :: es) (PySem.W.ksEnv q scope s.heap.objs.size f (.ref cd) cc) = (false, eval e (PySem.W.ksEnv q scope s.heap.objs.size f (.ref cd) cc)) :: starEach es (PySem.W.ksEnv q scope s.heap.objs.size f (.ref cd) cc)) (hpl : (backTo pos (starEach es (PySem.W.ksEnv q scope s.heap.objs.size f (.ref cd) cc))).any (·.1) = false)
    (hev : ∃ pl : Sem Bool, eval (.Call (.Attribute (.Call (.Name "super" p0) [] [] p1) "__init__" p2) (e :: es) [] pos) (PySem.W.ksEnv q scope s.heap.objs.size f (.ref cd) cc) = (do
      let ov ← attributeBase (.Call (.Name "super" p0) [] [] p1) "__init__" (PySem.W.ksEnv q scope s.heap.objs.size f (.ref cd) cc) (eval (.Call (.Name "super" p0) [] [] p1) (PySem.W.ksEnv q scope s.heap.objs.size f (.ref cd) cc))
      standAt p2.atName
      let (g, first) ← holding [ov] (getMethod ov "__init__" pl)
      callWith pos g first (backTo pos (starEach (e :: es) (PySem.W.ksEnv q scope s.heap.objs.size f (.ref cd) cc))) [])) :
    PySem.wpAt (model P w) (inCx P w K mg base N q scope f cd cc A outer s H E).A (.func body (PySem.W.ksEnv q scope s.heap.objs.size f (.ref cd) cc)) (eval (.Call (.Attribute (.Call (.Name "super" p0) [] [] p1) "__init__" p2) (e :: es) [] pos) (PySem.W.ksEnv q scope s.heap.objs.size f (.ref cd) cc))
      (fun _ s' => ∃ H', Inv (inCx P w K mg base N q scope f cd cc A outer s H E) pins σ H' s' ∧ Qn H') (inCx P w K mg base N q scope f cd cc A outer s H E).xe sn := by
  obtain ⟨pl, hev⟩ := hev
  obtain ⟨oc, od, dV, kV, doc, pm, an, ct, osl, rfl, lkf⟩ := F.fn
  obtain ⟨ccl, cdd, vsc, ccs, file, tf, lkc, hvs, hfile⟩ := F.rec_
  obtain ⟨cl, cld, csl, hcell⟩ := F.cell
  obtain ⟨cdD, hD⟩ := F.cls
  have X0 := I.kIn
  refine ks_wpAt_MethodCall (pl := pl) ?_ hev
  obtain ⟨oD, hD1, hD2⟩ : ∃ oD, sn.heap.get? D = some oD ∧ oD.data = .cls cdD := by
    unfold PySem.W.clsIn at hD
    split at hD
    · rename_i lo
      cases hD
      exact ⟨_, X0 _ _ lo, rfl⟩
    · cases hD
  obtain ⟨t1, hoe⟩ := exo_at I.hok ea
  obtain ⟨nm, qn, Na, bs, bm, sn', sub, ab, col, dd, k0, k1, k2, k3, k5, hC, hbm⟩ := T.ox.cls
  refine ks_wpAt_super_base (env := PySem.W.ksEnv q scope s.heap.objs.size f (.ref cd) cc) S.sk S.ck rfl rfl (X0 _ _ lkf) rfl hp rfl (X0 _ _ lkc) rfl hvs hfile F.top ?_
  obtain ⟨mb, b1, b2⟩ := I.mod.blt
  refine PySem.W.ks_loadName_global S.kind S.sk (Calls.loadGlobal_builtin (env := PySem.W.ksEnv q scope s.heap.objs.size f (.ref cd) cc) (I.mod.glob.keeps I.bk) hgm (b1.keeps I.bk) ((b2 _ (by decide +kernel)).trans (by kernel_rfl : bootBuiltins "super" = some (.type "super"))) ⟨rfl, ?_⟩)
  refine wpAny_loadName_free S.kind S.ck rfl ⟨_, X0 _ _ hcell, rfl⟩ ?_
  obtain ⟨m, hn, hlk⟩ := I.loc
  obtain ⟨u, hu, hlook⟩ := hlk 0 ar.arg (.ref a) hN hσ (.inl (S.vis 0 _ hN))
  cases (show u = Value.ref a from hu)
  have hm : m ar.arg = some (.ref a) := by
    rcases hlook with ⟨_, e⟩ | ⟨k, _⟩
    · exact e
    · have kl : scope.names.lookup ar.arg = some .local := S.vis 0 _ hN
      rcases k with k | k
      · have k' : scope.names.lookup ar.arg = some .cell := k
        rw [kl] at k'; cases k'
      · have k' : scope.names.lookup ar.arg = some .free := k
        rw [kl] at k'; cases k'
  refine wpAny_loadName_local S.kind (S.vis 0 _ hN) hn hm ?_
  refine ks_wpAny_isType_cls hD1 hD2 ⟨rfl, ?_⟩
  obtain ⟨hh, g, d, tks, os⟩ := sn
  refine ks_wpAny_call_super hD1 hD2 hoe rfl (fun c z => by cases z) (PySem.W.looks_mroIn X0 T.sub) (fun h' eso k => ?_)
  have I2 : Inv (inCx P w K mg base N q scope f cd cc A outer s H E) pins σ Hn ⟨h', g, d, tks, os⟩ := I.kept (t' := tks) k
  have hcl : PySem.W.clsIn K C = some { name := nm, bases := bs, mro := .ref C :: bm, ns := Na, qualname := qn, hasDict := true, slotNames := sn', subclasses := sub, abstract := ab, collection := col, hasDel := false } := by unfold PySem.W.clsIn; rw [hC] <;> rfl
  have nxt := T.nxt
  unfold PySem.W.ks_superIn at nxt
  rw [hcl] at nxt
  have hx2 := k _ _ hoe
  have LI : PySem.W.Looks (model P w) h' (isInstance (.ref a) (.type "ValueError")) true := by
    refine PySem.W.Looks.andThen (a := (.ref C : Value)) ?_ (PySem.W.looks_subIn I2.kIn T.ve)
    intro A' Q' E' s' k' q'
    exact wpAny_typeOf_ref (k' _ _ hx2) q'
  have aC : a ≠ C := fun z => by
    have y := X0 _ _ hC
    rw [← z, hoe] at y
    cases y
  refine PySem.W.kxs_getMethod PySem.W.kxs_ValueError eso (PySem.W.looks_opaque I2.kIn F.opq) (l₀ := .ref C :: bm) (fun A' Q' E' s' k' q' => wpAny_bind ((PySem.W.looks_clsIn I2.kIn hcl) A' _ E' s' k' (wpAny_pure q'))) rfl I2.kIn nxt LI aC rfl ?_
  -- the bound method-wrapper, pinned
  have hfresh : h'.objs.size ≤ h'.objs.size := Nat.le_refl _
  have I3 : Inv (inCx P w K mg base N q scope f cd cc A outer s H E) pins σ Hn ⟨h'.push (PySem.W.kxs_mw "ValueError.__init__" a), g, d, tks + 1, os⟩ := I2.kept fun b o z => Heap.get?_push_of_some _ z
  have uN : Hn h'.objs.size = none := I2.hok.fresh hfresh
  have I4 : Inv (inCx P w K mg base N q scope f cd cc A outer s H E) ((h'.objs.size, PySem.W.kxs_mw "ValueError.__init__" a) :: pins) σ Hn ⟨h'.push (PySem.W.kxs_mw "ValueError.__init__" a), g, d, tks + 1, os⟩ := I3.pins_of fun p hp' => by
    rcases List.mem_cons.mp hp' with rfl | hp'
    · exact ⟨Heap.get?_push_size _ rfl, uN, Nat.ne_of_gt I2.lt, I2.nofs hfresh, fun v z => by cases z⟩
    · exact I3.pin p (List.mem_append_right _ hp')
  rw [he]
  refine PySem.W.kxs_callWith (i := "ValueError.__init__") (x := a) (by show (false || (backTo pos (starEach es (PySem.W.ksEnv q scope s.heap.objs.size f (.ref cd) cc))).any (·.1)) = false; rw [hpl]; rfl) (Calls.evalArgs_plain ?_)
  have run := ha.run pos _ _ σ Hn _ I4 h
  rw [show starEach (e :: es) (inCx P w K mg base N q scope f cd cc A outer s H E).env = _ from he] at run
  refine thn run fun us1 s5 ⟨vs1, H1, I5, r1, hl1, ea1, qn1⟩ => ?_
  obtain ⟨hu5, _⟩ := I5.pin (h'.objs.size, PySem.W.kxs_mw "ValueError.__init__" a) (List.mem_append_right _ (List.mem_cons_self ..))
  refine ⟨hu5, ?_⟩
  obtain ⟨t5, ho5⟩ := exo_at I5.hok ea1
  obtain ⟨h5, g5, d5, k5', os5⟩ := s5
  refine wpAny_call (codeAny_of_tree ?_)
  show wpAny _ (Around.in1 _) (callAny (.ref h'.objs.size) ⟨[] ++ us1, []⟩) _ _ _
  simp only [callAny]
  refine wpAny_bind (wpAny_load hu5 ?_)
  simp only [PySem.W.kxs_mw, show (Value.type "method-wrapper" == Value.type "method" || Value.type "method-wrapper" == Value.type "builtin_function_or_method" || Value.type "method-wrapper" == Value.type "method-wrapper") = true by decide, if_true]
  refine PySem.W.KFB.if_so (by decide) ?_
  refine wpAny_bind (PySem.W.check_bound_init PySem.F.excBase_ValueError.toExcCallFacts (I5.kIn _ _ hC) ho5 rfl ?_)
  refine wpAny_bind (wpAny_pure (wpAny_pure ?_))
  refine ⟨plainId_quiet PySem.F.excBase_ValueError.init.plain _, codeAny_builtin PySem.F.excBase_ValueError.initEntry ?_⟩
  have hlen : ([] ++ us1).length ≤ sizeLine := by
    rw [List.nil_append, ← Paired.length r1, sizeLine_eq]; omega
  refine PySem.W.exc_init_tree (cls := .ref C) (t0 := t5) (dv := none) (c2 := .none) (c3 := .none) (b4 := .bool false) ho5 hlen fun h6 k6 hx6 _ => ?_
  have J := I5.write (t' := k5') (x := a) (e := a) (o := exo a C none) (by rw [ea1]; exact True.intro) (.inl rfl) k6 ⟨_, hx6⟩ (exo_ok hx6)
  have eu : upd H1 a (exo a C none) = H1 := by
    funext b
    by_cases hb : b = a
    · rw [hb, upd_same, ea1]
    · rw [upd_ne hb]
  rw [eu] at J
  exact ⟨H1, J.pins_of fun p hp' => J.pin p (List.mem_append_right _ (List.mem_cons_of_mem _ hp')), qn1⟩

/-- the run of such an __init__: st1 tells super().__init__, the rest sets the fields -/
theorem init_run {k : Nat} {e0x : Expr} {rest : List Stmt} {epos : Pos} {sp : Sp} (S : SupS N scope) (F : SupF P K q params (.Expr e0x epos :: rest) scope f D cc cd fd) (hlen : ∀ vs H Q E, sp vs H Q E → vs.length = N.length)
    (h1 : ∀ (A : Around) (outer : List Env) (s : Shared) (H : Hp) (E : XK) (vs : List V) (Q : VK) (sn : Shared), sp vs H Q E → Inv (inCx P w K mg base N q scope f cd cc A outer s H E) [] (vs.map some) H sn →
      PySem.wpAt (model P w) (inCx P w K mg base N q scope f cd cc A outer s H E).A (.func (.Expr e0x epos :: rest) (PySem.W.ksEnv q scope s.heap.objs.size f (.ref cd) cc)) (eval e0x (PySem.W.ksEnv q scope s.heap.objs.size f (.ref cd) cc))
        (fun _ s' => ∃ H', Inv (inCx P w K mg base N q scope f cd cc A outer s H E) [] (vs.map some) H' s' ∧ H' = H) (inCx P w K mg base N q scope f cd cc A outer s H E).xe sn)
    (h2 : ∀ (A : Around) (outer : List Env) (s : Shared) (H : Hp) (E : XK) (vs : List V) (Q : VK), sp vs H Q E → ∃ t, PSs (inCx P w K mg base N q scope f cd cc A outer s H E) rest t ∧ t { nx := fun _ H' => Q .non H', rt := fun _ _ => False } (vs.map some) H)
    (hsw : ∀ (s : Shared), swapsWith e0x none epos.line (PySem.W.ksEnv q scope s.heap.objs.size f (.ref cd) cc) = pure false) : FnOk P w K mg base (L2.CX P w) (k + 1) f fd N sp := by
  obtain ⟨oc, od, dV, kV, doc, pm, an, ct, osl, hfd, lkf⟩ := F.fn
  refine ⟨hlen, fun A outer s H args us vs Q E hr e0 hb r h => ?_⟩
  have hl := hlen _ _ _ _ h
  have KX : K.In s.heap := e0.mod.kin.keeps fun b o e => (e0.bs b o e).1
  have lim : s.heap.NoLimit := e0.mod.nolimit.keeps fun b o e => (e0.bs b o e).1
  subst hfd
  refine ks_codeAny_call_defAt (body := .Expr e0x epos :: rest) (binds := N.zip us) hr.depth (KX _ _ lkf) rfl lim (PySem.W.codeRec_of KX F.code) rfl hb S.nocell (fun y hy => S.par _ (List.of_mem_zip hy).1) (fun h₀ hns kp => ?_) S.co S.gen S.kind
  have I := in_start (E := E) (tk := s.toks + (N.zip us).length) S F hr.hd e0 hl r hns kp
  refine ks_wpAt_execs_cons (ks_wpAt_Expr_any (ks_wpAt_mono (h1 A outer s H E vs Q _ h I) (fun _ s1 ⟨H1, I1, e1⟩ => ?_) (fun _ _ z => z)) I.quiet (hsw s))
  subst e1
  obtain ⟨t, ht, hq⟩ := h2 A outer s H1 E vs Q h
  refine PySem.wpAt_of_wpAny (wpAny_mono (ht.run [] s1 _ _ _ I1 hq) (fun fl s' hs => ?_) fun _ _ z => z)
  cases fl with
  | next =>
    obtain ⟨σ', H', J, q⟩ := hs
    exact ⟨.non, H', J.os, J.bare, J.base, J.hok, rfl, q⟩
  | ret u =>
    obtain ⟨_, _, _, _, _, z⟩ := hs
    exact z.elim
  | brk =>
    obtain ⟨_, _, _, z⟩ := hs
    exact False.elim z
  | cont =>
    obtain ⟨_, _, _, z⟩ := hs
    exact False.elim z
end
end Dl

set_option maxHeartbeats 3900000
namespace Dl
open PySem
open PySem.Spec
open PyProof.Rows
open L2

/-! ### raise C(e, ..) -/
/-- such an __init__: the fields are set, nothing else -/
def spI (K : PySem.W.Frag) (D : Addr) (flds : List Str) : Sp := fun vs H Q _ => ∃ (a C : Addr) (ws : List V), vs = .ref a :: ws ∧ ws.length = flds.length ∧ SupC K C D flds ∧ H a = some (exo a C none) ∧
  ∀ (dx : Addr) (H' : Hp), H dx = none → dx ≠ a → H' a = some (exo a C (some dx)) → H' dx = some (exd dx (flds.zip ws).reverse) → (∀ b, b ≠ a → b ≠ dx → H' b = H b) → Q .non H'
section
variable {P : Program} {w : World} {K : PySem.W.Frag} {mg : Str → Option Value} {base : Heap} {q : Str} {scope : Scope} {params : Arguments} {f cd cc D : Addr} {fd : FuncData} {k : Nat} {ar : Arg}
/-- one field -/
theorem init1 {x : Str} {p0 p1 p2 p3 p4 p5 p6 p7 p8 p9 : Pos} (S : SupS ["self", x] scope) (F : SupF P K q params [.Expr (.Call (.Attribute (.Call (.Name "super" p0) [] [] p1) "__init__" p2) [.Name x p3] [] p4) p5, .Assign [.Attribute (.Name "self" p6) x p7] (.Name x p8) p9] scope f D cc cd fd)
    (hgm : mg "super" = none) (hp : (params.posonlyargs ++ params.args).head? = some ar) (har : ar.arg = "self") (hx1 : (x == ("__debug__" : Str)) = false) (hx2 : (x == ("__classdict__" : Str)) = false)
    (hs : ∀ L : Addr, starEach [.Name x p3] (PySem.W.ksEnv q scope L f (.ref cd) cc) = (false, eval (.Name x p3) (PySem.W.ksEnv q scope L f (.ref cd) cc)) :: starEach [] (PySem.W.ksEnv q scope L f (.ref cd) cc))
    (hev : ∀ L : Addr, ∃ pl : Sem Bool, eval (.Call (.Attribute (.Call (.Name "super" p0) [] [] p1) "__init__" p2) [.Name x p3] [] p4) (PySem.W.ksEnv q scope L f (.ref cd) cc) = (do
      let ov ← attributeBase (.Call (.Name "super" p0) [] [] p1) "__init__" (PySem.W.ksEnv q scope L f (.ref cd) cc) (eval (.Call (.Name "super" p0) [] [] p1) (PySem.W.ksEnv q scope L f (.ref cd) cc))
      standAt p2.atName
      let (g, first) ← holding [ov] (getMethod ov "__init__" pl)
      callWith p4 g first (backTo p4 (starEach [.Name x p3] (PySem.W.ksEnv q scope L f (.ref cd) cc))) []))
    (hsw : ∀ L : Addr, swapsWith (.Call (.Attribute (.Call (.Name "super" p0) [] [] p1) "__init__" p2) [.Name x p3] [] p4) none p5.line (PySem.W.ksEnv q scope L f (.ref cd) cc) = pure false)
    (hsw2 : ∀ L : Addr, swapsWith (.Name x p8) (some (.Attribute (.Name "self" p6) x p7)) p9.line (PySem.W.ksEnv q scope L f (.ref cd) cc) = pure false) : FnOk P w K mg base (L2.CX P w) (k + 1) f fd ["self", x] (spI K D [x]) := by
  refine init_run S F (fun vs H Q E h => ?_) (fun A outer s H E vs Q sn h I => ?_) (fun A outer s H E vs Q h => ?_) (fun s => hsw _)
  · obtain ⟨a, C, ws, rfl, hl, _⟩ := h
    simp [hl]
  · obtain ⟨a, C, ws, rfl, hl, T, ea, hQ⟩ := h
    refine st_super S F T hp (by rw [har]; rfl) rfl I ea (pa_cons (pe_var (i := 1) rfl (.inl (S.vis 1 _ rfl)) hx1 hx2) pa_nil (hs _)) ?_ hgm (hs _) rfl (hev _)
    match ws, hl with
    | [v], _ => exact ⟨v, rfl, (by decide : 1 ≤ 1000), ea, rfl⟩
  · obtain ⟨a, C, ws, rfl, hl, T, ea, hQ⟩ := h
    refine ⟨_, pss_one (ps_ost (pe_var (i := 0) rfl (.inl (S.vis 0 _ rfl))) (pe_var (i := 1) rfl (.inl (S.vis 1 _ rfl)) hx1 hx2) (hsw2 _)), ?_⟩
    match ws, hl with
    | [v], _ =>
      refine ⟨v, rfl, .ref a, rfl, a, C, rfl, T.ox, T.no x (List.mem_cons_self ..), .inl ⟨ea, fun dx hd hne => ?_⟩⟩
      refine hQ dx _ hd hne upd_same ?_ fun b hb hb2 => ?_
      · rw [upd_ne hne, upd_same]; rfl
      · rw [upd_ne hb, upd_ne hb2]
/-- two fields -/
theorem init2 {x y : Str} {p0 p1 p2 p3 p3' p4 p5 p6 p7 p8 p9 r6 r7 r8 r9 : Pos} (S : SupS ["self", x, y] scope) (F : SupF P K q params [.Expr (.Call (.Attribute (.Call (.Name "super" p0) [] [] p1) "__init__" p2) [.Name x p3, .Name y p3'] [] p4) p5, .Assign [.Attribute (.Name "self" p6) x p7] (.Name x p8) p9, .Assign [.Attribute (.Name "self" r6) y r7] (.Name y r8) r9] scope f D cc cd fd)
    (hgm : mg "super" = none) (hp : (params.posonlyargs ++ params.args).head? = some ar) (har : ar.arg = "self") (hx1 : (x == ("__debug__" : Str)) = false) (hx2 : (x == ("__classdict__" : Str)) = false) (hy1 : (y == ("__debug__" : Str)) = false) (hy2 : (y == ("__classdict__" : Str)) = false)
    (hs : ∀ L : Addr, starEach [.Name x p3, .Name y p3'] (PySem.W.ksEnv q scope L f (.ref cd) cc) = (false, eval (.Name x p3) (PySem.W.ksEnv q scope L f (.ref cd) cc)) :: starEach [.Name y p3'] (PySem.W.ksEnv q scope L f (.ref cd) cc))
    (hs' : ∀ L : Addr, starEach [.Name y p3'] (PySem.W.ksEnv q scope L f (.ref cd) cc) = (false, eval (.Name y p3') (PySem.W.ksEnv q scope L f (.ref cd) cc)) :: starEach [] (PySem.W.ksEnv q scope L f (.ref cd) cc))
    (hpl : ∀ L : Addr, (backTo p4 (starEach [.Name y p3'] (PySem.W.ksEnv q scope L f (.ref cd) cc))).any (·.1) = false)
    (hev : ∀ L : Addr, ∃ pl : Sem Bool, eval (.Call (.Attribute (.Call (.Name "super" p0) [] [] p1) "__init__" p2) [.Name x p3, .Name y p3'] [] p4) (PySem.W.ksEnv q scope L f (.ref cd) cc) = (do
      let ov ← attributeBase (.Call (.Name "super" p0) [] [] p1) "__init__" (PySem.W.ksEnv q scope L f (.ref cd) cc) (eval (.Call (.Name "super" p0) [] [] p1) (PySem.W.ksEnv q scope L f (.ref cd) cc))
      standAt p2.atName
      let (g, first) ← holding [ov] (getMethod ov "__init__" pl)
      callWith p4 g first (backTo p4 (starEach [.Name x p3, .Name y p3'] (PySem.W.ksEnv q scope L f (.ref cd) cc))) []))
    (hsw : ∀ L : Addr, swapsWith (.Call (.Attribute (.Call (.Name "super" p0) [] [] p1) "__init__" p2) [.Name x p3, .Name y p3'] [] p4) none p5.line (PySem.W.ksEnv q scope L f (.ref cd) cc) = pure false)
    (hsw2 : ∀ L : Addr, swapsWith (.Name x p8) (some (.Attribute (.Name "self" p6) x p7)) p9.line (PySem.W.ksEnv q scope L f (.ref cd) cc) = pure false)
    (hsw3 : ∀ L : Addr, swapsWith (.Name y r8) (some (.Attribute (.Name "self" r6) y r7)) r9.line (PySem.W.ksEnv q scope L f (.ref cd) cc) = pure false) : FnOk P w K mg base (L2.CX P w) (k + 1) f fd ["self", x, y] (spI K D [x, y]) := by
  refine init_run S F (fun vs H Q E h => ?_) (fun A outer s H E vs Q sn h I => ?_) (fun A outer s H E vs Q h => ?_) (fun s => hsw _)
  · obtain ⟨a, C, ws, rfl, hl, _⟩ := h
    simp [hl]
  · obtain ⟨a, C, ws, rfl, hl, T, ea, hQ⟩ := h
    refine st_super S F T hp (by rw [har]; rfl) rfl I ea (pa_cons (pe_var (i := 1) rfl (.inl (S.vis 1 _ rfl)) hx1 hx2) (pa_cons (pe_var (i := 2) rfl (.inl (S.vis 2 _ rfl)) hy1 hy2) pa_nil (hs' _)) (hs _)) ?_ hgm (hs _) (hpl _) (hev _)
    match ws, hl with
    | [v, v2], _ => exact ⟨v, rfl, v2, rfl, (by decide : 2 ≤ 1000), ea, rfl⟩
  · obtain ⟨a, C, ws, rfl, hl, T, ea, hQ⟩ := h
    refine ⟨_, pss_cons (ps_ost (pe_var (i := 0) rfl (.inl (S.vis 0 _ rfl))) (pe_var (i := 1) rfl (.inl (S.vis 1 _ rfl)) hx1 hx2) (hsw2 _)) (pss_one (ps_ost (pe_var (i := 0) rfl (.inl (S.vis 0 _ rfl))) (pe_var (i := 2) rfl (.inl (S.vis 2 _ rfl)) hy1 hy2) (hsw3 _))), ?_⟩
    match ws, hl with
    | [v, v2], _ =>
      refine ⟨v, rfl, .ref a, rfl, a, C, rfl, T.ox, T.no x (List.mem_cons_self ..), .inl ⟨ea, fun dx hd hne => ?_⟩⟩
      refine ⟨v2, rfl, .ref a, rfl, a, C, rfl, T.ox, T.no y (List.mem_cons_of_mem _ (List.mem_cons_self ..)), .inr ⟨dx, [(x, v)], upd_same, ?_, (by decide : 1 ≤ 900), ?_⟩⟩
      · rw [upd_ne hne, upd_same]
      · refine hQ dx _ hd hne ?_ upd_same fun b hb hb2 => ?_
        · rw [upd_ne (Ne.symm hne), upd_same]
        · rw [upd_ne hb2, upd_ne hb, upd_ne hb2]
end
/-- what raise C(..) asks of the class of the name x: its fields' names -/
structure Rz (P : Program) (w : World) (K : PySem.W.Frag) (mg : Str → Option Value) (base : Heap) (k : Nat) (x : Str) (flds : List Str) : Prop where
  ex : ∃ (C fI D : Addr) (fd : FuncData), mg x = some (.ref C) ∧ PySem.W.findIn K (.ref C) "__init__" = some (some (.ref fI)) ∧ PySem.W.typeIn K (.ref fI) = some (.type "function") ∧ FnOk P w K mg base (L2.CX P w) k fI fd ("self" :: flds) (spI K D flds) ∧
    Binds K fd ("self" :: flds) [] ∧ SupC K C D flds
def dsRaise (g : Gr) (x : Str) (flds : List Str) (t : DA) : DB := fun st E => t st (fun ds st1 => ds.length = flds.length ∧ ds.length ≤ 1000 ∧ (g.exs.lookup x).isSome = true ∧ E.ex (x, (flds.zip ds).reverse) st1) E.ex
section
variable {gb : Bool} {X : Cx} {g : Gr} {en : En} {W : WX} {k k' : Nat} {x : Str} {flds : List Str} {e : Expr} {es : List Expr} {t : DA} {p pos pos' : Pos}
theorem RepF.zip {F : Hp} : ∀ {flds : List Str} {ds : List D} {vs : List V}, Reps g F ds vs → RepF g F (flds.zip ds) (flds.zip vs)
  | [], ds, vs, _ => by simp only [List.zip_nil_left, RepF]
  | f :: fs, [], vs, h => by
    simp only [Reps] at h
    subst h
    simp only [List.zip_nil_right, RepF]
  | f :: fs, d :: ds, vs, h => by
    simp only [Reps] at h
    obtain ⟨v, r, rfl, q, t⟩ := h
    simp only [List.zip_cons_cons, RepF]
    exact ⟨v, _, rfl, q, RepF.zip t⟩
theorem RepF.append {F : Hp} : ∀ {a b : List (Str × D)} {u v : List (Str × V)}, RepF g F a u → RepF g F b v → RepF g F (a ++ b) (u ++ v)
  | [], b, u, v, h, h2 => by
    simp only [RepF] at h
    subst h
    exact h2
  | (x, d) :: a, b, u, v, h, h2 => by
    simp only [RepF] at h
    obtain ⟨y, r, rfl, q, t⟩ := h
    simp only [List.cons_append, RepF]
    exact ⟨y, _, rfl, q, RepF.append t h2⟩
theorem RepF.reverse {F : Hp} : ∀ {a : List (Str × D)} {u : List (Str × V)}, RepF g F a u → RepF g F a.reverse u.reverse
  | [], u, h => by
    simp only [RepF] at h
    subst h
    simp only [List.reverse_nil, RepF]
  | (x, d) :: a, u, h => by
    simp only [RepF] at h
    obtain ⟨y, r, rfl, q, t⟩ := h
    rw [List.reverse_cons, List.reverse_cons]
    refine RepF.append t.reverse ?_
    simp only [RepF]
    exact ⟨y, [], rfl, q, rfl⟩
theorem ds_raise (B : Cn gb X g W k') (Z : Rz X.prog X.w X.K X.mg X.base k x flds) (ha : PA X (e :: es) (la g en W t)) (hk : k + 1 ≤ k' := by decide) (hg : Gl X x := by rfl) (hdb : (x == ("__debug__" : Str)) = false := by decide) (he : starEach (e :: es) X.env = (false, eval e X.env) :: starEach es X.env := by rfl)
    (hpl : (backTo pos (starEach es X.env)).any (·.1) = false := by rfl) : PS X (.Raise (some (.Call (.Name x p) (e :: es) [] pos)) none pos') (ls g en W (dsRaise g x flds t)) := by
  obtain ⟨C, fI, D, fd, gC, iC, tI, F1, hb, T⟩ := Z.ex
  refine PS.weak (ps_raise B.o.calm B.tk (pmk_oex T.ox iC tI F1 (B.hr.mono hk) hb .nil passL hg gC ha hdb he hpl)) ?_
  rintro Dz σ H ⟨F, st, E, rs, q, kk⟩
  refine ⟨F, st, _, E.ex, rs, q, fun ds st1 vs F1 H1 t1 s1 rs1 r1 => ?_, kk.ex⟩
  obtain ⟨l1, l2, l3, t1⟩ := t1
  refine ⟨by rw [r1.length]; exact l2, fun a hn => ?_⟩
  refine ⟨a, C, vs ++ [], rfl, by rw [List.append_nil, r1.length]; exact l1, T, upd_same, fun dx H2 hd hne ea ed hoth => ⟨rfl, dx, _, ea, ed, ?_, ?_⟩⟩
  · rw [upd_ne hne] at hd; exact hd
  · have hd1 : H1 dx = none := by rw [upd_ne hne] at hd; exact hd
    rw [List.append_nil] at ed ⊢
    have eq : upd (del H2 a) dx (HO.xd (flds.zip vs).reverse) = upd H1 dx (HO.xd (flds.zip vs).reverse) := by
      funext b
      by_cases hb : b = dx
      · rw [hb, upd_same, upd_same]
      · rw [upd_ne hb, upd_ne hb]
        by_cases hb2 : b = a
        · rw [hb2, del_same, hn]
        · rw [del_ne hb2, hoth b hb2 hb, upd_ne hb2]
    rw [eq]
    have fd1 : F1 dx = none := by
      cases z : F1 dx with
      | none => rfl
      | some u => rw [rs1.w.sub _ _ z] at hd1; cases hd1
    exact kk.ex _ st1 _ _ σ _ _ t1 (s1.trans (Sub.new fd1)) (rs1.laid hd1 (fun ps z => by cases z)) ⟨C, dx, _, ⟨by rw [← B.o.mg]; exact gC, l3⟩, rfl, rfl, upd_same, (RepF.mono (Sub.new fd1) (RepF.zip r1)).reverse⟩
end
end Dl

set_option maxHeartbeats 3900000
namespace Dl
open PySem
open PySem.Spec
open PyProof.Rows
open L2

/-! ### fields -/
def fldD (g : Gr) (f : Str) : D → Option D
  | .ob C fs => if g.fld.contains (C, f) = true then fs.lookup f else none
  | .er C fs => if g.fld.contains (C, f) = true then fs.lookup f else none
  | _ => none
def dFld (g : Gr) (f : Str) (te : DE) : DE := fun st P R => te st (fun d st1 => ∃ d', fldD g f d = some d' ∧ P d' st1) R
section
variable {X : Cx} {g : Gr} {en : En} {W : WX} {e : Expr} {te : DE} {f : Str} {pos : Pos}
theorem RepF.look {F : Hp} : ∀ {fs : List (Str × D)} {gs : List (Str × V)} {d : D}, RepF g F fs gs → fs.lookup f = some d → ∃ v, gs.lookup f = some v ∧ Rep g F d v
  | [], _, _, _, h => by cases h
  | (x, y) :: fs, gs, d, r, h => by
    simp only [RepF] at r
    obtain ⟨v, t, rfl, q, r⟩ := r
    rw [List.lookup_cons] at h ⊢
    cases z : (f == x) with
    | true =>
      rw [z] at h
      cases h
      exact ⟨v, rfl, q⟩
    | false =>
      rw [z] at h
      exact RepF.look r h
theorem de_fld (o : On X g) (he : PE X e (le g en W te)) (hb : attributeBase e f X.env (eval e X.env) = eval e X.env := by rfl) : PE X (.Attribute e f pos) (le g en W (dFld g f te)) := by
  refine ⟨fun pins s σ H Q I ⟨F, st, P, R, rs, q, kP, kR⟩ => ?_⟩
  refine attr_of hb (thn (he.run pins s σ H (fun v H1 => ∃ F1 st1 d d', Sub F F1 ∧ Rs g en F1 σ H1 st1 ∧ Rep g F1 d v ∧ fldD g f d = some d' ∧ P d' st1) I ⟨F, st, _, R, rs, q, fun d st1 v F1 H1 ⟨d', e1, p1⟩ s1 rs1 r1 => ⟨F1, st1, d, d', s1, rs1, r1, e1, p1⟩, kR⟩) fun u s1 ⟨x, H1, I1, rx, F1, st1, d, d', z1, rs1, rp, e1, p1⟩ => ?_)
  unfold fldD at e1
  split at e1
  · rename_i C fs
    split at e1
    · rename_i hk
      simp only [Rep] at rp
      obtain ⟨a, Ca, dx, gs, rfl, m, q1, r1⟩ := rp
      obtain rfl : u = Value.ref a := rx
      obtain ⟨v, l, r2⟩ := r1.look e1
      have fI := o.gr.ins C Ca m.2 m.1
      have no := o.gr.noat C f Ca hk m.1
      rw [← o.K] at fI no
      exact getattr_ok I1 (rs1.w.sub _ _ q1) fI.cl no l fun u' s2 I2 ru => ⟨v, H1, I2, ru, kP d' st1 v F1 H1 p1 z1 rs1 r2⟩
    · cases e1
  · rename_i C fs
    split at e1
    · rename_i hk
      simp only [Rep] at rp
      obtain ⟨a, Ca, dx, gs, rfl, m, q1, q2, r1⟩ := rp
      obtain rfl : u = Value.ref a := rx
      obtain ⟨v, l, r2⟩ := r1.look e1
      have fI := o.gr.ers C Ca m.2 m.1
      have no := o.gr.noat C f Ca hk m.1
      rw [← o.K] at fI no
      obtain ⟨⟨vs, sl, ha⟩, _⟩ := (show ObjOk X.prog X.w H1 s1.heap a (erO a Ca dx) from I1.hok a _ (rs1.w.sub _ _ q1))
      obtain ⟨mA, hns, hr⟩ := (show ObjOk X.prog X.w H1 s1.heap dx (.xd gs) from I1.hok dx _ (rs1.w.sub _ _ q2))
      obtain ⟨od, ho, hl⟩ := lookIn_ns hns
      obtain ⟨w, hw, rw'⟩ := RelO.some_of (v := v) (o := mA f) (by rw [← l]; exact hr f)
      have J : PySem.W.InstAt s1.heap a { cls := .ref Ca, dict := some dx, data := .fields vs, slots := sl } Ca (some od) := ⟨ha, rfl, rfl, ho⟩
      exact HandSPX.exc_get I1.kIn J fI.ga fI.gt fI.sub (PySem.W.findObj_own fI.hd no rfl (by rw [hl, hw])) (handed_of rw') ⟨v, H1, I1.tok _, rw', kP d' st1 v F1 H1 p1 z1 rs1 r2⟩
    · cases e1
  · cases e1
end
end Dl

set_option maxHeartbeats 3900000
namespace Dl
open PySem
open PySem.Spec
open PyProof.Rows
open L2

/-! ### try: .. except C as n: m = n -- the exception is kept -/
section
variable {X : Cx} {pins : List (Addr × Obj)} {σ : L2.St} {H : Hp} {s : Shared}
/-- a pinned exception is told from now on -/
theorem inv_track {a Ca dx : Addr} {vs : Array Value} {sl : Array (Option Value)} (I : Inv X ((a, { cls := .ref Ca, dict := some dx, data := .fields vs, slots := sl }) :: pins) σ H s) (n0 : X.s_0.heap.get? a = none) (np : ∀ p ∈ X.pn ++ pins, p.1 ≠ a) : Inv X pins σ (upd H a (erO a Ca dx)) s := by
  obtain ⟨ha, hn, hL, hF, hc⟩ := I.pin _ (List.mem_append_right _ (List.mem_cons_self ..))
  have sm : ∀ {b : Addr} {u : HO}, H b = some u → b ≠ a := fun {b u} e z => by
    rw [z, show H a = none from hn] at e
    cases e
  refine ⟨I.ok, I.os, I.bare, ⟨I.base.keep, I.base.slot, fun b o e n hx => ?_, I.base.there, fun b xs e => ?_, fun b o u e => ?_, fun b ps e => ?_⟩, I.loc, I.cell, ?_, fun x c e => ?_, fun p hp => ?_, fun b u e => ?_, I.len⟩
  · rw [upd_ne fun z => by rw [z, n0] at e; cases e]
    exact I.base.free b o e n hx
  · have y := I.base.tups b xs e
    rw [upd_ne (sm y)]; exact y
  · have y := I.base.frzs b o u e
    rw [upd_ne (sm y)]; exact y
  · obtain ⟨more, y⟩ := I.base.tbls b ps e
    exact ⟨more, by rw [upd_ne (sm y)]; exact y⟩
  · rw [upd_ne fun z => hL z.symm]; exact I.free
  · obtain ⟨v, o, ho, hd⟩ := I.cell x c e
    have z : c ≠ a := fun z => by
      have ha' : s.heap.get? a = some ({ cls := .ref Ca, dict := some dx, data := .fields vs, slots := sl } : Obj) := ha
      rw [z, ha'] at ho
      cases ho
      cases hd
    rw [upd_ne z]; exact I.freeC x c e
  · have y := I.pin p ((List.mem_append.mp hp).elim (fun z => List.mem_append_left _ z) fun z => List.mem_append_right _ (List.mem_cons_of_mem _ z))
    exact ⟨y.1, by rw [upd_ne (np p hp)]; exact y.2.1, y.2.2⟩
  · by_cases z : b = a
    · subst z
      rw [upd_same] at e
      cases e
      exact ⟨⟨vs, sl, ha⟩, ⟨_, ha⟩, fun h1 h2 y k => by
        obtain ⟨ws, s2, q⟩ := y
        exact ⟨ws, s2, k _ q⟩⟩
    · rw [upd_ne z] at e
      exact (I.hok b u e).stay (fun _ _ _ q => q) (fun c q => by rw [upd_ne (sm q)]; exact q) fun c xs q => by rw [upd_ne (sm q)]; exact q
/-- what the clause wishes: every exception of the body is of C; it stands in slot j from now on -/
def wKeep (X : Cx) (c : Value) (i j : Nat) (D : Ends) : WX := fun cls d σ H => PySem.W.exmOne X.K cls c = some true ∧ ∃ Ca dx : Addr, cls = .ref Ca ∧ d = some dx ∧ ∀ a, H a = none → σ.length = X.N.length → D.nx (((σ.set i (some (.ref a))).set j (some (.ref a))).set i none) (upd H a (erO a Ca dx))
theorem ps_try_keep {x n m : Str} {c : Value} {i j : Nat} {body : List Stmt} {np q1 q2 q3 pos pos' : Pos} {tb : WX → TS} (hs : X.stack = X.env :: X.outer) (hf : X.env.frame = some X.env.locals) (hex : X.ex = []) (hN : X.N.Nodup) (hi : X.N[i]? = some n) (hj : X.N[j]? = some m)
    (hln : X.env.kindOf n = some .local) (hlm : X.env.kindOf m = some .local) (hc : Names X x c) (hd1 : (n == ("__debug__" : Str)) = false) (hd2 : (n == ("__classdict__" : Str)) = false) (hsw : swapsWith (.Name n q2) (some (.Name m q1)) q3.line X.env = pure false)
    (hb : ∀ (W : WX) (pn : List (Addr × Obj)) (xe : Value → Shared → Prop), Takes (X.tr pn xe) W → PassesOwn (model X.prog X.w) X.A X.env xe → PSs (X.tr pn xe) body (tb W)) :
    PS X (.Try body [.ExceptHandler (some (.Name x np)) (some n) [.Assign [.Name m q1] (.Name n q2) q3] pos'] [] [] pos) (fun D σ H => tb (wKeep X c i j D) D σ H) := by
  refine ⟨fun pins s σ H D I h => ?_⟩
  have ok := I.ok
  have hfr : X.A.frames = some (X.env :: X.outer) := by rw [ok.frames, hs]
  have after : ∀ (u : Value) (s' : Shared), XE (X.tr (X.pn ++ pins) (fun e s₁ => wpAny (model X.prog X.w) X.A (noteFrame e X.env) (fun _ s₂ => wpAny (model X.prog X.w) X.A (setFlight e none) (fun _ s₃ =>
      wpAny (model X.prog X.w) X.A (handleBy e X.env [.ExceptHandler (some (.Name x np)) (some n) [.Assign [.Name m q1] (.Name n q2) q3] pos']) (SP X pins D) X.xe s₃) X.xe s₂) X.xe s₁)) (wKeep X c i j D) u s' →
      wpAny (model X.prog X.w) X.A (noteFrame u X.env) (fun _ s₂ => wpAny (model X.prog X.w) X.A (setFlight u none) (fun _ s₃ =>
      wpAny (model X.prog X.w) X.A (handleBy u X.env [.ExceptHandler (some (.Name x np)) (some n) [.Assign [.Name m q1] (.Name n q2) q3] pos']) (SP X pins D) X.xe s₃) X.xe s₂) X.xe s' := by
    rintro u s' ⟨a, B, sI, pins', σ1, H1, cls, d, rfl, J0, nb, up, sky, na, os, ag, hm, Ca, dx, rfl, rfl, hnx⟩
    have J : Inv X pins σ1 H1 sI := J0.ofTry ok
    have sky2 : Sky B (X.env :: X.outer) a (Zc (.ref Ca) (some dx)) X.env.locals s'.heap := by rw [← hs]; exact sky
    refine Sky.land Zc.steady hfr hf sky2 fun h3 fl3 up3 => ?_
    have J3 : Inv X pins σ1 H1 { s' with heap := h3 } := J.landed nb fl3.1 (up.trans up3) os ag
    obtain ⟨o3, v3, he3, hz3, hd3⟩ := fl3.there
    have nfr : a ∉ frs (X.env :: X.outer) := fun hmem => by
      obtain ⟨_, o', e', hnf⟩ := fl3.2.2.1.mem hmem
      rw [he3] at e'
      cases e'
      exact hnf _ hd3
    have nL : a ≠ X.env.locals := fun z => nfr (List.mem_filterMap.mpr ⟨X.env, List.mem_cons_self, by rw [hf, z]⟩)
    have nF : a ∉ X.fs := fun hmem => by
      obtain ⟨e, he, q⟩ := List.mem_filterMap.mp hmem
      exact nfr (List.mem_filterMap.mpr ⟨e, List.mem_cons_of_mem _ he, q⟩)
    -- the exception is younger than the try
    have young : sI.heap.get? a = none := by
      cases z : sI.heap.get? a with
      | none => rfl
      | some o =>
        have y := nb a o z (by show a ∉ frs X.stack; rw [hs]; exact nfr)
        rw [fl3.2.1] at y
        cases y
    have n0 : X.s_0.heap.get? a = none := by
      cases z : X.s_0.heap.get? a with
      | none => rfl
      | some o =>
        obtain ⟨o', y⟩ := J.base.there a o z (by rw [hex]; exact List.not_mem_nil)
        rw [young] at y
        cases y
    have nP : ∀ p ∈ X.pn ++ pins, p.1 ≠ a := fun p hp z => by
      have y := (J.pin p hp).1
      rw [z, young] at y
      cases y
    have S3 := J3.suite he3 hd3 na nL nF
    refine wpAny_handleBy_cons (codeAny_handlers_test ?_) (by intro q; cases q)
    have LT : PySem.W.Looks (model X.prog X.w) h3 (typeOf (.ref a)) (.ref Ca) := fun A Q E s k q => wpAny_typeOf_ref (k _ _ he3) (by rw [hz3.1]; exact q)
    have LM := PySem.W.exm_one (M := model X.prog X.w) J3.kIn LT hm
    have test : ∀ {Q : Value → Shared → Prop} {E : Value → Shared → Prop}, Q c { s' with heap := h3 } → wpAny (model X.prog X.w) (X.A.mark (some (.ref a))) (eval (.Name x np) X.env) Q E { s' with heap := h3 } := fun {Q E} q => by
      obtain ⟨hg, hdbg, hmm | ⟨hmm, hv, hnn⟩⟩ := hc
      · exact ld_glob (X := X.suite a ((a, o3) :: (X.pn ++ pins))) S3 hg hmm q hdbg
      · exact ld_blt (X := X.suite a ((a, o3) :: (X.pn ++ pins))) S3 hg hmm hv q hnn hdbg
    refine test (LM.here (codeAny_handlers_suite_as ?_))
    refine HandSPX.lands_againZ fl3 fun h4 fl4 up4 => ?_
    have J4 : Inv X pins σ1 H1 { s' with heap := h4 } := J.landed nb fl4.1 ((up.trans up3).trans up4) os ag
    obtain ⟨o4, v4, he4, hz4, hd4⟩ := fl4.there
    have S4 := J4.suite he4 hd4 na nL nF
    refine store_ok (X := X.suite a ((a, o4) :: (X.pn ++ pins))) (v := .ref a) S4 hN hi (.inl hln) rfl (fun s5 S5 => ?_) (.inr hln)
    have hl1 : σ1.length = X.N.length := J.len
    have hi1 : i < σ1.length := by rw [hl1]; exact (List.getElem?_eq_some_iff.mp hi).1
    have rd : PE (X.suite a ((a, o4) :: (X.pn ++ pins))) (.Name n q2) (tVar i) := pe_var (X := X.suite a ((a, o4) :: (X.pn ++ pins))) hi (.inl hln) hd1 hd2
    have st : PSs (X.suite a ((a, o4) :: (X.pn ++ pins))) [.Assign [.Name m q1] (.Name n q2) q3] (tAsg (tVar i) (gName j)) := pss_one (ps_set (X := X.suite a ((a, o4) :: (X.pn ++ pins))) hN hj (.inl hlm) rd hsw (.inr hlm))
    refine wpAny_mono (st.run [] s5 _ H1 { nx := fun σ' H' => σ' = (σ1.set i (some (.ref a))).set j (some (.ref a)) ∧ H' = H1, rt := fun _ _ => False } S5 ⟨_, List.getElem?_set_self hi1, rfl, rfl⟩) (fun f s6 hsp => ?_) (fun _ _ z => False.elim z)
    cases f with
    | next =>
      obtain ⟨σ6, H6, S6, e1, e2⟩ := hsp
      subst e1 e2
      have U : Inv X ((a, o4) :: pins) ((σ1.set i (some (.ref a))).set j (some (.ref a))) H6 s6 := ⟨ok, S6.os, S6.bare, S6.base, S6.loc, S6.cell, S6.free, S6.freeC, fun p hp => by
        refine S6.pin p (List.mem_append_left _ ?_)
        rcases List.mem_append.mp hp with z | z
        · exact List.mem_cons_of_mem _ (List.mem_append_left _ z)
        · rcases List.mem_cons.mp z with z | z
          · rw [z]; exact List.mem_cons_self ..
          · exact List.mem_cons_of_mem _ (List.mem_append_right _ z), S6.hok, S6.len⟩
      refine gone_ok U hN hi hln fun s7 J7 => ?_
      obtain ⟨c4, d4, dt4, sl4⟩ := o4
      obtain ⟨zc, zd⟩ := hz4
      simp only at zc zd hd4
      subst zc zd hd4
      exact ⟨_, _, inv_track J7 n0 nP, hnx a na hl1⟩
    | brk => obtain ⟨_, _, _, z⟩ := hsp; exact False.elim z
    | cont => obtain ⟨_, _, _, z⟩ := hsp; exact False.elim z
    | ret u => obtain ⟨_, _, _, _, _, z⟩ := hsp; exact False.elim z
  refine wpAny_Try_except ?_
  refine wpAny_mono ((hb (wKeep X c i j D) (X.pn ++ pins) _ after PassesOwn.looking).run [] s σ H D (I.toTry _) h) (fun f s1 hsp => ?_) (fun e s1 he => he)
  cases f with
  | next =>
    obtain ⟨σ', H', J', q⟩ := hsp
    exact wpAny_execs_nil ⟨σ', H', J'.ofTry ok, q⟩
  | brk =>
    obtain ⟨σ', H', J', q⟩ := hsp
    exact ⟨σ', H', J'.ofTry ok, q⟩
  | cont =>
    obtain ⟨σ', H', J', q⟩ := hsp
    exact ⟨σ', H', J'.ofTry ok, q⟩
  | ret u =>
    obtain ⟨v, σ', H', J', r, q⟩ := hsp
    exact ⟨v, σ', H', J'.ofTry ok, r, q⟩
end
end Dl

set_option maxHeartbeats 3900000
namespace Dl
open PySem
open PySem.Spec
open PyProof.Rows
open L2

/-! ### try that keeps the exception, on data -/
/-- x's class is one of C's -/
def isEx (g : Gr) (C : Str) (x : X) : Prop := ∃ l, g.exs.lookup x.1 = some l ∧ l.contains C = true
def dsTry (g : Gr) (C : Str) (i j : Nat) (t : DB) : DB := fun st E => t st { E with ex := fun x st1 => isEx g C x ∧ E.nx (((st1.set i (.fz (.er x.1 x.2))).set j (.fz (.er x.1 x.2))).set i .un) }
section
variable {X : Cx} {g : Gr} {en : En} {W : WX} {F H : Hp} {σ : L2.St} {st : DS} {t : DB}
theorem Rs.unset (h : Rs g en F σ H st) (i : Nat) (v : Option V) : Rs g en F (σ.set i v) H (st.set i .un) := by
  have key : ∀ {j : Nat} {s : Sl}, (st.e.set i .un)[j]? = some s → s ≠ .un → st.e[j]? = some s ∧ (σ.set i v)[j]? = σ[j]? := fun {j s} q n => by
    rcases set_get q with ⟨_, _, z⟩ | ⟨z, q⟩
    · exact absurd z n
    · exact ⟨q, List.getElem?_set_ne (Ne.symm z)⟩
  refine ⟨h.w, h.es, h.cel0, h.old, h.dom, h.new, ?_, fun j d q => ?_, fun j es q => ?_, fun j k es fs m hjk q1 q2 q3 => ?_, fun q hq => ?_⟩
  · show (st.e.set i .un).length = _
    rw [List.length_set, List.length_set]; exact h.len
  · obtain ⟨z, e⟩ := key q (fun y => by cases y)
    rw [e]; exact h.fz j d z
  · obtain ⟨z, e⟩ := key q (fun y => by cases y)
    rw [e]; exact h.ol j es z
  · obtain ⟨z1, e1⟩ := key q1 (fun y => by cases y)
    obtain ⟨z2, e2⟩ := key q2 (fun y => by cases y)
    rw [e1] at q3
    rw [e2]
    exact h.ap j k es fs m hjk z1 z2 q3
  · obtain ⟨g1, g2, g3, g4⟩ := h.gk q hq
    refine ⟨g1, g2, g3, fun j es q5 => ?_⟩
    obtain ⟨z, e⟩ := key q5 (fun y => by cases y)
    rw [e]; exact g4 j es z
theorem ds_try {x n m : Str} {i j : Nat} {body : List Stmt} {np q1 q2 q3 pos pos' : Pos} (o : On X g) (hs : X.stack = X.env :: X.outer) (hf : X.env.frame = some X.env.locals) (hex : X.ex = []) (hN : X.N.Nodup) {Ta : Addr} (hg : Gl X x) (gT : g.mg x = some (.ref Ta))
    (hb : ∀ (W : WX) (pn : List (Addr × Obj)) (xe : Value → Shared → Prop), Takes (X.tr pn xe) W → PassesOwn (model X.prog X.w) X.A X.env xe → PSs (X.tr pn xe) body (ls g en W t)) (hi : X.N[i]? = some n := by rfl) (hj : X.N[j]? = some m := by rfl) (hln : X.env.kindOf n = some .local := by rfl) (hlm : X.env.kindOf m = some .local := by rfl)
    (hdx : (x == ("__debug__" : Str)) = false := by decide) (hd1 : (n == ("__debug__" : Str)) = false := by decide) (hd2 : (n == ("__classdict__" : Str)) = false := by decide) (hsw : swapsWith (.Name n q2) (some (.Name m q1)) q3.line X.env = pure false := by rfl) :
    PS X (.Try body [.ExceptHandler (some (.Name x np)) (some n) [.Assign [.Name m q1] (.Name n q2) q3] pos'] [] [] pos) (ls g en W (dsTry g x i j t)) := by
  refine PS.weak (ps_try_keep (i := i) (j := j) (c := .ref Ta) (tb := fun W D σ H => ls g en W t D σ H) hs hf hex hN hi hj hln hlm ⟨hg, hdx, .inl (by rw [o.mg]; exact gT)⟩ hd1 hd2 hsw hb) ?_
  rintro D σ H ⟨F, st, E, rs, q, k⟩
  refine ⟨F, st, _, rs, q, ⟨k.nx, k.bk, k.ct, k.rt, fun x1 st1 cls dd σ1 F1 H1 hx s1 rs1 rx => ?_⟩⟩
  obtain ⟨⟨l, hl, hc⟩, hnx⟩ := hx
  obtain ⟨Ca, dx, gs, kn, rfl, rfl, hdx1, rf⟩ := rx
  refine ⟨by rw [o.K]; exact o.gr.exm _ _ _ _ _ hl hc kn.1 gT, Ca, dx, rfl, rfl, fun a hn _ => ?_⟩
  have hfn : F1 a = none := by
    cases z : F1 a with
    | none => rfl
    | some u => rw [rs1.w.sub _ _ z] at hn; cases hn
  have sF : Sub F1 (upd F1 a (erO a Ca dx)) := Sub.new hfn
  have rs2 := rs1.laid (o := erO a Ca dx) hn (fun ps z => by unfold erO at z; cases z)
  have rd : Rep g (upd F1 a (erO a Ca dx)) (.er x1.1 x1.2) (.ref a) := by
    simp only [Rep]
    exact ⟨a, Ca, dx, gs, rfl, kn, upd_same, sF _ _ hdx1, RepF.mono sF rf⟩
  exact k.nx _ _ _ _ hnx (s1.trans sF) (((rs2.store rd i).store rd j).unset i none)
end
end Dl

set_option maxHeartbeats 3900000
namespace Dl
open PySem
open PySem.Spec
open PyProof.Rows
open L2

/-! ### a def that is handed a lambda -/
/-- from the draws left: a value or an error -/
abbrev DAsk := Nat → (D → Nat → Prop) → (X → Nat → Prop) → Prop
/-- what a step may do to the heap -/
structure Stp (g : Gr) (F H F' H' : Hp) (n' : Nat) : Prop where
  sub : Sub F F'
  wd : Wd g F' H' n'
  kp : Keep g H H'
  dm : ∀ a, Nw H' a → Nw H a
  nw : ∀ a o, F' a = some o → F a = some o ∨ Nw H a
def AskOk (g : Gr) (tl : XK → Hp → VK → Prop) (H F : Hp) (T : DAsk) : Prop := ∀ (E : XK) (Q : VK) (F1 H1 : Hp) (n : Nat) (P : D → Nat → Prop) (R : X → Nat → Prop), Stp g F H F1 H1 n → T n P R →
  (∀ d n' v F' H', P d n' → Stp g F1 H1 F' H' n' → Rep g F' d v → Q v H') → (∀ x n' cls dd F' H', R x n' → Stp g F1 H1 F' H' n' → RepX g F' H' x cls dd → E cls dd H') → tl E H1 Q
def dAsk (f : Addr) (T : DAsk) : DE := fun st P R => st.e[0]? = some (.fz (.fn f)) ∧ T st.n (fun d n' => P d ⟨st.e, n'⟩) (fun x n' => R x ⟨List.replicate st.e.length .un, n'⟩)
theorem Sub.extN {H H1 : Hp} {F : Hp} (s : Sub F H) (n : ∀ a ps, F a ≠ some (.tbl ps)) (e : LamX.ExtN H H1) : Sub F H1 := fun a o q => e a o (s a o q) fun ps z => n a ps (by rw [q, z])
section
variable {g : Gr} {en : En} {F F' H H1 H' : Hp} {σ : L2.St} {st : DS} {n : Nat}
theorem Cells.extN (h : Cells g H) (e : LamX.ExtN H H1) : Cells g H1 := by
  obtain ⟨q, r⟩ := h
  refine ⟨?_, r⟩
  rcases q with (q | ⟨o, q⟩) | q
  · exact .inl (.inl (e _ _ q fun ps z => by cases z))
  · exact .inl (.inr ⟨o, e _ _ q fun ps z => by cases z⟩)
  · exact .inr q
theorem Wd.extN (h : Wd g F H n) (e : LamX.ExtN H H1) (t : LamX.Tabs g.tabs H1) : Wd g F H1 n := by
  obtain ⟨x, r, q, k⟩ := h.pen
  exact ⟨h.sub.extN h.ntb e, h.ntb, h.npen, ⟨x, r, e _ _ q (fun ps z => by cases z), k⟩, h.cel.extN e, t⟩
theorem Nw.extN (e : LamX.ExtN H H1) {a : Addr} (h : Nw H1 a) : Nw H a := fun o q => Classical.byContradiction fun z => by
  have y := e a o q fun ps w => z ⟨ps, w⟩
  exact z (h o y)
theorem Rs.extN (h : Rs g en F σ H st) (e : LamX.ExtN H H1) (t : LamX.Tabs g.tabs H1) : Rs g en F σ H1 st := by
  refine ⟨h.w.extN e t, h.es, h.cel0, fun b o q m p => e b o (h.old b o q m p) m, fun a q => h.dom a (q.extN e), h.new, h.len, h.fz, fun i es q => ?_, h.ap, fun q hq => ?_⟩
  · obtain ⟨l, vs, e1, e2, r⟩ := h.ol i es q
    exact ⟨l, vs, e1, e _ _ e2 (fun ps z => by cases z), r⟩
  · obtain ⟨g1, g2⟩ := h.gk q hq
    exact ⟨e _ _ g1 (fun ps z => by cases z), g2⟩
/-- own lists are not told within -/
def unol (e : List Sl) : List Sl := e.map fun s => match s with
  | .ol _ => .un
  | s => s
theorem Rs.rebase (h : Rs g en F σ H st) : Rs g ⟨H, F, []⟩ F σ H ⟨unol st.e, st.n⟩ := by
  have key : ∀ {i : Nat} {s : Sl}, (unol st.e)[i]? = some s → (∃ d, s = .fz d ∧ st.e[i]? = some (.fz d)) ∨ s = .un := fun {i s} q => by
    unfold unol at q
    rw [List.getElem?_map] at q
    cases z : st.e[i]? with
    | none => rw [z] at q; cases q
    | some y =>
      rw [z] at q
      cases y with
      | un => cases q; exact .inr rfl
      | ol ds => cases q; exact .inr rfl
      | fz d => cases q; exact .inl ⟨d, rfl, rfl⟩
  refine ⟨h.w, Sub.refl _, h.w.cel, Keep.refl _ _, fun a q => q, fun a o q => .inl q, ?_, fun i d q => ?_, fun i es q => ?_, fun i j es fs l _ q => ?_, fun q hq => by cases hq⟩
  · show (unol st.e).length = _
    unfold unol
    rw [List.length_map]; exact h.len
  · rcases key q with ⟨d', e1, e2⟩ | e1
    · cases e1; exact h.fz i d e2
    · cases e1
  · rcases key q with ⟨_, e1, _⟩ | e1 <;> cases e1
  · rcases key q with ⟨_, e1, _⟩ | e1 <;> cases e1
theorem Rs.stp (h : Rs g en F σ H st) (s : Stp g F H F' H' n) : Rs g en F' σ H' ⟨st.e, n⟩ := h.called s.wd s.kp s.dm s.sub s.nw
theorem Rs.allun (h : Rs g en F σ H st) {σ' : L2.St} (hl : σ'.length = σ.length) : Rs g en F σ' H ⟨List.replicate st.e.length .un, st.n⟩ := by
  have key : ∀ {i : Nat} {s : Sl}, (List.replicate st.e.length Sl.un)[i]? = some s → s = .un := fun {i s} q => List.eq_of_mem_replicate (List.mem_of_getElem? q)
  refine ⟨h.w, h.es, h.cel0, h.old, h.dom, h.new, ?_, fun i d q => ?_, fun i es q => ?_, fun i j es fs l _ q => ?_, fun q hq => ?_⟩
  · show (List.replicate _ _).length = _
    rw [List.length_replicate, hl]; exact h.len
  · have := key q; cases this
  · have := key q; cases this
  · have := key q; cases this
  · obtain ⟨g1, g2, g3, _⟩ := h.gk q hq
    exact ⟨g1, g2, g3, fun i es q => by have := key q; cases this⟩
/-- two frozen parts of one heap, together -/
def uni (F G : Hp) : Hp := fun a => match F a with
  | some o => some o
  | none => G a
theorem uni_l : Sub F (uni F F') := fun a o e => by unfold uni; rw [e]
theorem uni_r (s1 : Sub F H) (s2 : Sub F' H) : Sub F' (uni F F') := fun a o e => by
  unfold uni
  cases z : F a with
  | none => exact e
  | some u =>
    have y := s1 a u z
    rw [s2 a o e] at y
    exact y.symm
end
section
variable {gb : Bool} {X : Cx} {g : Gr} {en : En} {W : WX} {k : Nat}
/-- in the def: what it got, called -/
theorem de_ask {Z : Cx} {tl : XK → Hp → VK → Prop} {T : DAsk} {H F : Hp} {f c' : Addr} {q a : Str} {p1 p2 : Pos} {n0 : Nat} (tk : Takes Z W) (w0 : Wd g F H n0) (hE : en = ⟨H, F, []⟩) (hc : H c' = some (LamX.CodeO c' q))
    (act : ∀ (W : WX) (E : XK), Takes Z W → (∀ cls d σ' H', E cls d H' → W cls d σ' H') → PE Z (.Call (.Name a p1) [] [] p2) (fun σZ HZ Q => σZ[0]? = some (some (.ref f)) ∧ HZ c' = some (LamX.CodeO c' q) ∧ tl E HZ Q)) (ask : AskOk g tl H F T) :
    PE Z (.Call (.Name a p1) [] [] p2) (le g en W (dAsk f T)) := by
  subst hE
  refine ⟨fun pins s σ HZ Q I ⟨F1, st, P, R, rs, ⟨e0, q0⟩, kP, kR⟩ => ?_⟩
  have tk' : Takes Z (fun cls d σ' H' => σ'.length = σ.length → W cls d σ' H') := fun u s' ⟨b, B, sI, pins', σ', H', cls, d, e, I', nb, up, sky, na, os, ag, w⟩ =>
    tk u s' ⟨b, B, sI, pins', σ', H', cls, d, e, I', nb, up, sky, na, os, ag, w (by rw [I'.len, I.len])⟩
  have pe := act (fun cls d σ' H' => σ'.length = σ.length → W cls d σ' H') (fun cls d H' => ∀ σ' : L2.St, σ'.length = σ.length → W cls d σ' H') tk' (fun cls d σ' H' h hl => h σ' hl)
  have hcp : c' ≠ g.p := fun z => by
    obtain ⟨x, r, e, _⟩ := w0.pen
    rw [z, e] at hc
    exact absurd (Option.some.inj hc) (by unfold LamX.CodeO; intro y; cases y)
  refine pe.run pins s σ HZ Q I ⟨?_, rs.old _ _ hc (fun ps => LamX.codeO_ne ps) hcp, ?_⟩
  · obtain ⟨v, e1, r⟩ := rs.fz 0 _ e0
    simp only [Rep] at r
    rw [← r]; exact e1
  · refine ask _ Q F1 HZ st.n _ _ ⟨rs.es, rs.w, rs.old, rs.dom, rs.new⟩ q0 (fun d n' v F2 H2 p stp r => kP d _ v F2 H2 p stp.sub (rs.stp stp) r) (fun x n' cls dd F2 H2 p stp r σ' hl => ?_)
    exact kR x _ cls dd σ' F2 H2 p stp.sub ((rs.stp stp).allun hl) r
/-- what the def promises of a lambda that does T -/
abbrev DHd := DAsk → Nat → (D → Nat → Prop) → Prop
def TTh (g : Gr) (hd : DHd) : (XK → Hp → VK → Prop) → Hp → VK → Prop := fun tl H Q => ∃ (F : Hp) (n : Nat) (T : DAsk) (P : D → Nat → Prop), Wd g F H n ∧ AskOk g tl H F T ∧ hd T n P ∧ ∀ d n' v F' H', P d n' → Stp g F H F' H' n' → Rep g F' d v → Q v H'
theorem gives_of {Ng : List Str} {x a q : Str} {sg : Scope} {ga : Addr} {cdg : Value} {bg : List Stmt} {hd : DHd} {tH : Addr → DAsk → DB} (B : Cn gb X g W (k + 1)) (Sg : FnScope Ng [a] sg)
    (hb : ∀ (s : Shared) (H : Hp) (f : Addr) (T : DAsk) (en : En), Cn gb (cxOf C8.CX0 X.prog X.w X.K X.mg X.base Ng x sg ga cdg X.A X.stack s H C8.E0).nox g NoX k →
      (∀ (W : WX) (pn : List (Addr × Obj)) (xe : Value → Shared → Prop) (p1 p2 : Pos), Takes ((cxOf C8.CX0 X.prog X.w X.K X.mg X.base Ng x sg ga cdg X.A X.stack s H C8.E0).nox.tr pn xe) W → PE ((cxOf C8.CX0 X.prog X.w X.K X.mg X.base Ng x sg ga cdg X.A X.stack s H C8.E0).nox.tr pn xe) (.Call (.Name a p1) [] [] p2) (le g en W (dAsk f T))) →
      PSs (cxOf C8.CX0 X.prog X.w X.K X.mg X.base Ng x sg ga cdg X.A X.stack s H C8.E0).nox bg (ls g en NoX (tH f T)))
    (hp : ∀ f T n P, hd T n P → tH f T ⟨slots Ng [.fn f], n⟩ { nx := fun st => P .non st.n, rt := fun d st => P d st.n }) : LamX.GivesTo X Ng x sg ga cdg bg a q (TTh g hd) := by
  intro f c' s H Q tl act hc ⟨F, n, T, P, wd, ask, hT, hQ⟩
  have hun : (X.A.deeper (envOfC x sg s.heap.objs.size ga cdg)).units + 128 < cLine := by
    have z := B.hr.un
    show X.A.units + 3 + 128 < cLine
    omega
  have B' : Cn gb (cxOf C8.CX0 X.prog X.w X.K X.mg X.base Ng x sg ga cdg X.A X.stack s H C8.E0).nox g NoX k := ⟨⟨B.o.K, B.o.mg, rfl, hun, B.o.gr⟩, LamX.takes0, B.hr.deeper _, Sg.nd, fun z => B.gd z⟩
  refine ⟨ls g ⟨H, F, []⟩ NoX (tH f T), hb s H f T _ B' (fun W' pn xe p1 p2 tk => de_ask tk wd rfl hc (fun W2 E tk2 hW => act W2 pn xe E p1 p2 tk2 hW) ask), ?_⟩
  have hl : [D.fn f].length ≤ Ng.length := by
    have z := congrArg List.length Sg.pre
    rw [List.length_take] at z
    simp only [List.length_cons, List.length_nil] at z ⊢
    omega
  refine ⟨F, _, _, rs_start (N := Ng) (ds := [.fn f]) (vs := [.ref f]) wd (by simp only [Reps, Rep]; exact ⟨_, _, rfl, rfl, rfl⟩) hl, hp f T n P hT, fun st σ' F' H' p s rs => ?_, fun _ _ _ _ z => z.elim, fun _ _ _ _ z => z.elim, fun d st v σ' F' H' p s rs rr => ?_, fun _ _ _ _ _ _ _ z => z.elim⟩
  · exact hQ .non st.n .non F' H' p ⟨s, rs.w, rs.old, rs.dom, rs.new⟩ (by simp only [Rep])
  · exact hQ d st.n v F' H' p ⟨s, rs.w, rs.old, rs.dom, rs.new⟩ rr
/-- the lambda's body as it is asked for, from the caller's state -/
def askOf (te : DE) (st : DS) : DAsk := fun n P R => te ⟨unol st.e, n⟩ (fun d st' => P d st'.n) (fun x st' => R x st'.n)
def dLam (hd : DHd) (te : DE) : DE := fun st P R => hd (askOf te st) st.n (fun d n' => P d ⟨st.e, n'⟩)
theorem lam_reads {hd : DHd} {te : DE} (σ : L2.St) (H : Hp) (Q : VK) (h : le g en W (dLam hd te) σ H Q) : LamX.tLam g.tabs (TTh g hd) (fun E σ H Q => ∃ en, le g en (WE E) te σ H Q) σ H Q := by
  obtain ⟨F, st, P, R, rs, q, kP, kR⟩ := h
  refine ⟨rs.w.tab, fun H1 eN tb => ?_⟩
  have rs1 := rs.extN eN tb
  refine ⟨F, st.n, askOf te st, _, rs1.w, ?_, q, fun d n' v F' H' p stp r => kP d _ v F' H' p stp.sub (rs1.stp stp) r⟩
  intro E Q' F1 H2 n P' R' stp hT hP hR
  have rs2 := (rs1.stp stp).rebase
  refine ⟨_, F1, _, _, _, rs2, hT, fun d st2 v F2 H3 p s2 rs3 r => ?_, fun x st2 cls dd σ2 F2 H3 p s2 rs3 r => ?_⟩
  · exact hP d st2.n v F2 H3 p ⟨s2, rs3.w, rs3.old, rs3.dom, rs3.new⟩ r
  · exact hR x st2.n cls dd F2 H3 p ⟨s2, rs3.w, rs3.old, rs3.dom, rs3.new⟩ r
end
end Dl

set_option maxHeartbeats 3900000
namespace Dl
open PySem
open PySem.Spec
open PyProof.Rows
open L2

theorem Cn.blk {gb : Bool} {X : Cx} {g : Gr} {W : WX} {k : Nat} (B : Cn gb X g W k) (s : Shared) (H : Hp) (scope : Scope) (ce : Env) (fp : List Addr) : Cn gb (X.blk s H scope ce fp) g NoX k := ⟨⟨B.o.K, B.o.mg, B.o.calm, B.o.hu, B.o.gr⟩, LamX.takes0, B.hr, B.nd, B.gd⟩
theorem Cn.tr {gb : Bool} {X : Cx} {g : Gr} {W W' : WX} {k : Nat} (B : Cn gb X g W k) {pn : List (Addr × Obj)} {xe : Value → Shared → Prop} (tk : Takes (X.tr pn xe) W') : Cn gb (X.tr pn xe) g W' k := ⟨⟨B.o.K, B.o.mg, B.o.calm, B.o.hu, B.o.gr⟩, tk, B.hr, B.nd, B.gd⟩
/-! ### isinstance(e, (C1, C2, ..)) -/
def dIsiT (g : Gr) (te : DE) (ts : DA) : DE := fun st P R => te st (fun d st1 => ts st1 (fun cs st2 => cs.length ≤ sizeLine ∧ cs.length ≠ 0 ∧ ∃ b, isiAny g d cs = some b ∧ P (.bl b) st2) R) R
section
variable {gb : Bool} {X : Cx} {g : Gr} {en : En} {W : WX} {k k' : Nat} {e : Expr} {es : List Expr} {te : DE} {ts : DA} {p pt pos : Pos} {j : Nat}
theorem isiAny_ok {F : Hp} {d : D} (gr : GrF g) : ∀ {cs : List D} {ws : List V} {b : Bool}, isiAny g d cs = some b → Reps g F cs ws → ∃ us, Paired ClsV ws us ∧ ∀ t tv, tyD d = some t → TyV g t tv → PySem.W.kitAny g.K tv us = some b
  | [], ws, b, h, rr => by
    simp only [Reps] at rr
    subst rr
    simp only [isiAny] at h
    cases h
    exact ⟨[], .nil, fun _ _ _ _ => rfl⟩
  | c1 :: cs, ws, b, h, rr => by
    simp only [Reps] at rr
    obtain ⟨w, wr, rfl, r1, r2⟩ := rr
    unfold isiAny at h
    obtain ⟨b1, e1, h⟩ := Option.bind_eq_some_iff.mp h
    obtain ⟨b2, e2, rfl⟩ := Option.map_eq_some_iff.mp h
    obtain ⟨us, p1, p2⟩ := isiAny_ok gr e2 r2
    obtain ⟨t', k1, h1, h2, cv, h3, h4⟩ := isi1_ok e1 r1
    refine ⟨cv :: us, .cons h4 p1, fun t tv ht htv => ?_⟩
    rw [ht] at h1
    cases h1
    refine kitAny_cons (gr.isa _ _ _ _ _ h2 htv h3) (fun z => ?_) (fun z => by rw [z]; rfl)
    rw [z]; exact p2 _ _ ht htv
def rIsiD (g : Gr) : List V → Hp → VK → Prop := fun xs H Q => ∃ (F : Hp) (d : D) (v : V) (tp : Addr) (cs : List D) (ws : List V) (b : Bool), xs = [v, .ref tp] ∧ Sub F H ∧ Rep g F d v ∧ Reps g F cs ws ∧ H tp = some (.tup ws) ∧ cs ≠ [] ∧ isiAny g d cs = some b ∧ Q (.bl b) H
theorem call_isiDT (o : On X g) : CallR X (.builtin "isinstance") (rIsiD g) := by
  intro pins s σ H xs us Q I r h
  obtain ⟨F, d, v, tp, cs, ws, b, rfl, sF, r1, r2, hT, hne, e, q⟩ := h
  obtain ⟨u1, u2, rfl, p1, p2⟩ := vals2 r
  cases (show u2 = Value.ref tp from p2)
  obtain ⟨vs, c1, c2⟩ := isiAny_ok o.gr e r2
  cases cs with
  | nil => exact absurd rfl hne
  | cons c cr =>
    simp only [Reps] at r2
    obtain ⟨w, wr, rfl, q1, _⟩ := r2
    unfold isiAny at e
    obtain ⟨b1, e1, _⟩ := Option.bind_eq_some_iff.mp e
    obtain ⟨t, k1, h1, h2, _⟩ := isi1_ok e1 q1
    obtain ⟨tv, ht, P, Z, p, hx⟩ := r1.kit o I sF p1 h1 h2
    obtain ⟨_, its, rv, ob, g1, g2, n, g3⟩ := (show ObjOk X.prog X.w H s.heap tp (.tup (w :: wr)) from I.hok tp _ hT)
    have e3 := ClsV.all c1 rv
    subst e3
    obtain ⟨oc, od, dt, sl⟩ := ob
    simp only at g2 g3
    subst g2 g3
    exact PySem.W.kia_tup Z I.kIn p g1 (by rw [o.K]; exact c2 t tv h1 ht) hx fun tk => ⟨.bl b, H, I.tok tk, rfl, q⟩
theorem de_isiT (o : On X g) (hm : X.mg "isinstance" = none) (he : PE X e (le g en W te)) (hes : PA X es (la g en W ts)) (hg : Gl X "isinstance" := by rfl) (hs : starEach [e, .Tuple es j pt] X.env = (false, eval e X.env) :: starEach [.Tuple es j pt] X.env := by rfl)
    (hs2 : starEach [.Tuple es j pt] X.env = (false, eval (.Tuple es j pt) X.env) :: starEach [] X.env := by rfl) (hpl : (backTo pos (starEach [.Tuple es j pt] X.env)).any (·.1) = false := by rfl) :
    PE X (.Call (.Name "isinstance" p) [e, .Tuple es j pt] [] pos) (le g en W (dIsiT g te ts)) := by
  refine (pe_callB (call_isiDT o) hg hm PyProof.Rows.Boot.«isinstance» (pa_cons he (pa_cons (pe_tup hes) pa_nil hs2) hs) (by decide) (by decide) hs hpl).weak ?_
  rintro σ H Q ⟨F, st, P, R, rs, q, kP, kR⟩
  refine ⟨F, st, _, R, rs, q, fun d st1 v F1 H1 t1 s1 rs1 r1 => ?_, kR⟩
  refine ⟨F1, st1, _, R, rs1, t1, fun cs st2 ws F2 H2 t2 s2 rs2 r2 => ?_, kR.sub s1⟩
  obtain ⟨hz, hn, b, e1, p1⟩ := t2
  refine ⟨by rw [r2.length]; exact hz, fun tp hp => ?_⟩
  have hf : F2 tp = none := by
    cases z : F2 tp with
    | none => rfl
    | some u => rw [rs2.w.sub _ _ z] at hp; cases hp
  have sF : Sub F2 (upd F2 tp (.tup ws)) := Sub.new hf
  have rs3 := rs2.laid (o := .tup ws) hp (fun ps z => by cases z)
  exact ⟨_, d, v, tp, cs, ws, b, rfl, rs3.w.sub, (r1.mono s2).mono sF, Reps.mono sF r2, upd_same, fun z => hn (by rw [z]; rfl), e1, kP _ st2 _ _ _ p1 ((s1.trans s2).trans sF) rs3 (by simp only [Rep])⟩
end
section
variable {X : Cx} {g : Gr} {en : En} {W : WX} {pos : Pos}
/-- a class of the module -/
theorem de_gcl {x : Str} (o : On X g) (hm : ∃ a, g.mg x = some (.ref a)) (hg : Gl X x := by rfl) (hd : (x == ("__debug__" : Str)) = false := by decide) : PE X (.Name x pos) (le g en W (dC (.cl x))) := by
  obtain ⟨a, hm⟩ := hm
  exact de_gref o hm hg hd
theorem dt_w {t : DT} {op : BoolOp} {vs : List Expr} (h : PW X (.BoolOp op vs pos) (lt g en W t)) : PT X (.BoolOp op vs pos) (lt g en W t) := h.pt
end
/-! ### the lambda handed over -/
section
variable {gb : Bool} {X : Cx} {g : Gr} {en : En} {W : WX} {k : Nat}
/-- of a def that is handed a lambda: all that its call asks -/
structure Hd (gb : Bool) (X : Cx) (g : Gr) (x : Str) (hd : DHd) : Prop where
  ex : ∃ (ga : Addr) (a : Str) (Ng : List Str) (pg : Arguments) (bg : List Stmt) (sg : Scope) (dV kV doc pm cdv ct oc : Value) (an od : Option Addr) (osl : Array (Option Value)), X.mg x = some (.ref ga) ∧ PySem.W.keepIn X.K (.ref ga) = true ∧
    X.K.lookup ga = some ⟨oc, od, .func (PySem.W.fnOf x x pg bg sg dV kV doc pm an cdv ct), osl⟩ ∧ PySem.W.codeIn X.K cdv x = true ∧ L2.Binds X.K (PySem.W.fnOf x x pg bg sg dV kV doc pm an cdv ct) [a] [] ∧ FnScope Ng [a] sg ∧ Ng[0]? = some a ∧ Vis sg a ∧
    (a == ("__debug__" : Str)) = false ∧ (a == ("__classdict__" : Str)) = false ∧ LamX.GivesTo X Ng x sg ga cdv bg a (X.env.qual ++ "<lambda>") (TTh g hd)
theorem de_lam {hd : DHd} {te : DE} {x : Str} {c P : Addr} {params : Arguments} {body : Expr} {scope : Scope} {p lpos pos : Pos} (B : Cn gb X g W (k + 2)) (Z : Hd gb X g x hd) (TB : LamX.TabB X.base X.mg c P) (hcode : X.env.code = .ref c) (hmT : (P, X.env.qual ++ "<lambda>") ∈ g.tabs)
    (hu : ∀ p ∈ g.tabs, p.1 = P → p.2 = X.env.qual ++ "<lambda>") (L : LamX.LamS X.env.scope scope) (hbody : ∀ (A : Around) (outer : List Env) (s : Shared) (H : Hp) (E : XK) (f c' : Addr) (en : En), Cn false (LamX.lamCx X A outer s H E scope f c') g (WE E) k → PE (LamX.lamCx X A outer s H E scope f c') body (le g en (WE E) te))
    (hg : Gl X x := by rfl) (hdef : defaultsOf params X.env = ([], []) := by rfl) (hbind : ∀ (q : Str) (cl : List (Str × Addr)) (pm cv ctv : Value), bindArgs (PySem.W.kla_fn "<lambda>" q params body scope cl pm cv ctv) ⟨[], []⟩ = pure [] := by exact fun _ _ _ _ _ => rfl) (hdb : (x == ("__debug__" : Str)) = false := by decide) :
    PE X (.Call (.Name x p) [.Lambda params body scope lpos] [] pos) (le g en W (dLam hd te)) := by
  obtain ⟨ga, a, Ng, pg, bg, sg, dV, kV, doc, pm, cdv, ct, oc, an, od, osl, h1, h2, h3, h4, h5, h6, h7, h8, h9, h10, h11⟩ := Z.ex
  refine (LamX.pe_lamcall (T := g.tabs) (t := fun E σ H Q => ∃ en, le g en (WE E) te σ H Q) hg h1 h2 h3 h4 h5 h6 h7 h8 h11 TB hcode hmT hu B.hr L hdef hbind (fun A outer s H E f c' hr => ?_) hdb h9 h10).weak lam_reads
  refine ⟨fun pins s' σ H' Q I ⟨en, q⟩ => (hbody A outer s H E f c' en ⟨⟨B.o.K, B.o.mg, rfl, ?_, B.o.gr⟩, takes_of rfl rfl rfl rfl, hr, B.nd, fun z => by cases z⟩).run pins s' σ H' Q I q⟩
  have z := hr.un
  exact Nat.lt_of_le_of_lt (by show (A.deeper (LamX.lamEnv X scope s.heap.objs.size f c')).units + 128 ≤ (A.deeper (LamX.lamEnv X scope s.heap.objs.size f c')).units + 16 * k + 200; omega) z
end
end Dl

set_option maxHeartbeats 3900000
namespace Dl
open PySem
open PySem.Spec
open PyProof.Rows
open L2

/-! ### - e -/
def dNeg (te : DE) : DE := fun st P R => te st (fun d st1 => ∃ i, d = .int i ∧ P (.int (-i)) st1) R
theorem de_neg {X : Cx} {g : Gr} {en : En} {W : WX} {e : Expr} {te : DE} {pos : Pos} (he : PE X e (le g en W te)) : PE X (.UnaryOp .USub e pos) (le g en W (dNeg te)) := by
  refine (pe_un un_neg he).weak ?_
  rintro σ H Q ⟨F, st, P, R, rs, q, kP, kR⟩
  refine ⟨F, st, _, R, rs, q, fun d st1 v F1 H1 t1 s1 rs1 r1 => ?_, kR⟩
  obtain ⟨i, rfl, p⟩ := t1
  simp only [Rep] at r1
  exact ⟨i, r1, kP _ _ _ F1 H1 p s1 rs1 (by simp only [Rep])⟩
/-! ### methods of lists -/
def isL : D → Bool
  | .lst _ => true
  | _ => false
/-- x.m(e, ..), the answer by a function -/
def dMt (h : D → List D → Option D) (to : DE) (ta : DA) : DE := fun st P R => to st (fun d st1 => isL d = true ∧ ta st1 (fun ds st2 => ∃ r, h d ds = some r ∧ P r st2) R) R
def rM (g : Gr) (en : En) (h : D → List D → Option D) : V → List V → Hp → VK → Prop := fun x xs H Q => ∃ F σ st d ds r, Rs g en F σ H st ∧ Rep g F d x ∧ Reps g F ds xs ∧ h d ds = some r ∧ ∀ v F' H', Sub F F' → Rs g en F' σ H' st → Rep g F' r v → Q v H'
def countD : D → List D → Option D
  | .lst xs, [d] => match toPys xs, toPy d with
    | some ps, some p => if PyData.plainAll ps = true ∧ p.plain = true ∧ p.depth ≤ 60 then some (.int ((ps.countP fun y => PyData.eqv y p : Nat) : Int)) else none
    | _, _ => none
  | _, _ => none
def indexD : D → List D → Option D
  | .lst xs, [d] => match toPys xs, toPy d with
    | some ps, some p => if SeqAt.shaped (.list ps) = true ∧ SeqAt.shaped p = true then (SeqAt.dataPlace ps p).map fun (j : Nat) => D.int (j : Int) else none
    | _, _ => none
  | _, _ => none
section
variable {X : Cx} {g : Gr} {en : En} {W : WX} {o e : Expr} {es : List Expr} {to : DE} {t : DA} {name : Str} {apos cpos : Pos} {id : String} {h : D → List D → Option D}
theorem de_lm (slot : Slot "list" name id) (hty : typeOf (.builtin id) = pure (.type "method_descriptor")) (hm : MtR X id (rM g en h)) (ho : PE X o (le g en W to)) (ha : PA X (e :: es) (la g en W t)) (hbase : attributeBase o name X.env (eval o X.env) = eval o X.env := by rfl)
    (hfew : ((backTo cpos (starEach (e :: es) X.env)).all (fun x => !x.1) && (backToKw cpos (keywordEach [] X.env)).all (fun x => x.1.isSome) && decide ((e :: es).length + ([] : List Keyword).length + (if ([] : List Keyword).isEmpty then 0 else 1) < 30)) = true := by rfl)
    (hline : (apos.endLine == cpos.line) = true := by rfl) (hs : starEach (e :: es) X.env = (false, eval e X.env) :: starEach es X.env := by rfl) (hplain : (backTo cpos (starEach es X.env)).any (·.1) = false := by rfl) :
    PE X (.Call (.Attribute o name apos) (e :: es) [] cpos) (le g en W (dMt h to t)) := by
  refine (pe_bm PySem.F.plainAttrs_list slot hty hm ho ha hbase hfew hline hs hplain).weak ?_
  rintro σ H Q ⟨F, st, P, R, rs, q, kP, kR⟩
  refine ⟨F, st, _, R, rs, q, fun d st1 v F1 H1 t1 s1 rs1 r1 => ?_, kR⟩
  obtain ⟨hd, t2⟩ := t1
  cases d <;> simp only [isL] at hd <;> try (cases hd)
  have r1' := r1
  simp only [Rep] at r1'
  obtain ⟨a, vs, rfl, qa, ra⟩ := r1'
  refine ⟨.inl ⟨rfl, _, .of (rs1.w.sub _ _ qa)⟩, F1, st1, _, R, rs1, t2, fun ds st2 ws F2 H2 t3 s2 rs2 r2 => ?_, kR.sub s1⟩
  obtain ⟨r, e1, p⟩ := t3
  exact ⟨F2, σ, st2, _, ds, r, rs2, r1.mono s2, r2, e1, fun v F3 H3 s3 rs3 r3 => kP r st2 v F3 H3 p ((s1.trans s2).trans s3) rs3 r3⟩
theorem mt_countD (o : On X g) : MtR X "list.count" (rM g en countD) := by
  rintro pins s σ' H x xs v us Q I rx rxs ⟨F, σ, st, d, ds, r, rs, r1, r2, e, k⟩
  unfold countD at e
  split at e
  · split at e
    · rename_i xs' d' ps p e1 e2
      split at e
      · rename_i hz
        cases e
        simp only [Rep] at r1
        simp only [Reps] at r2
        obtain ⟨a, vs, rfl, qa, ra⟩ := r1
        obtain ⟨y, _, rfl, ry, rfl⟩ := r2
        cases rx
        cases rxs with
        | cons q1 q2 =>
          cases q2
          obtain ⟨its, rv, pl, hl⟩ := I.list (L2.SqL.of (rs.w.sub _ _ qa))
          obtain ⟨as, h4⟩ := Dp.readsAll I ps vs its (by rw [o.K]; exact ra.dp rs.w.sub e1) rv
          obtain ⟨bs, h5⟩ := Dp.reads I p y _ (by rw [o.K]; exact ry.dp rs.w.sub e2) q1
          have hu := o.hu
          refine SeqAt.count_list_data (vs := its.toArray) pl.isList (by simpa using h4) h5 hz.1 hz.2.1 (by have := Nat.min_le_right (PyData.depthAll ps) p.depth; omega) ?_
          exact ⟨.int _, H, I.tok _, ⟨_, rfl⟩, k _ F H (Sub.refl _) rs (by simp only [Rep])⟩
      · cases e
    · cases e
  · cases e
theorem mt_indexDD (o : On X g) : MtR X "list.index" (rM g en indexD) := by
  rintro pins s σ' H x xs v us Q I rx rxs ⟨F, σ, st, d, ds, r, rs, r1, r2, e, k⟩
  unfold indexD at e
  split at e
  · split at e
    · rename_i xs' d' ps p e1 e2
      split at e
      · rename_i hz
        obtain ⟨j, e3, rfl⟩ := Option.map_eq_some_iff.mp e
        obtain ⟨hj, h1, h2⟩ := List.findIdx?_eq_some_iff_getElem.mp e3
        have r1' := r1
        simp only [Rep] at r1'
        simp only [Reps] at r2
        obtain ⟨a, vs, rfl, qa, ra⟩ := r1'
        obtain ⟨y, _, rfl, ry, rfl⟩ := r2
        refine mt_indexD (by have := o.hu; omega) pins s σ' H (.ref a) [y] v us Q I rx rxs ⟨a, y, p, ps, j, ps[j], rfl, rfl, ?_, ?_, hz.1, hz.2, List.getElem?_eq_getElem hj, h1, fun m z' hm hz' => ?_, k _ F H (Sub.refl _) rs (by simp only [Rep])⟩
        · exact .lst (.of (rs.w.sub _ _ qa)) (by rw [o.K]; exact ra.dp rs.w.sub e1)
        · rw [o.K]; exact ry.dp rs.w.sub e2
        · have hm2 : m < ps.length := by omega
          rw [List.getElem?_eq_getElem hm2] at hz'
          cases hz'
          simpa using h2 m hm
      · cases e
    · cases e
  · cases e
end
end Dl

set_option maxHeartbeats 3900000
namespace Dl
open PySem
open PySem.Spec
open PyProof.Rows
open L2
/-! ### the head's facts of own classes, told by Bools over the written part -/
theorem bsplit {a b : Bool} (h : (a && b) = true) : a = true ∧ b = true := Bool.and_eq_true_iff.mp h
/-- an own exception's __init__ that is looked at: its class, its fields, its def's row -/
structure Ini where
  C : Str
  flds : List Str
  qual : Str
  params : Arguments
  body : List Stmt
  scope : Scope
abbrev IniV : Type := Option (Str × Str × Arguments × FuncBody × Scope × Addr × Addr)
def inA (K : PySem.W.Frag) (C : Str) : Addr := He.ma K (He.ga K C) "__init__"
def inV (K : PySem.W.Frag) (C : Str) : IniV := match K.lookup (inA K C) with
  | some ⟨_, _, .func fd, _⟩ => some (fd.name, fd.qualname, fd.params, fd.body, fd.scope, fd.globals, fd.builtins)
  | _ => none
def Ini.val (i : Ini) : IniV := some ("__init__", i.qual, i.params, .stmts i.body, i.scope, mainGlobals, builtinsNs)
def clD (K : PySem.W.Frag) (cc : Addr) : Option Addr := match K.lookup cc with
  | some ⟨_, _, .cell (some (.ref D)), _⟩ => some D
  | _ => none
def cdFile (K : PySem.W.Frag) (cd : Addr) : Option Str := match K.lookup cd with
  | some ⟨_, _, .fields vs, _⟩ => (match (vs[2]? : Option Value) with
    | some (Value.str f _) => some f
    | _ => none)
  | _ => none
def oexB (K : PySem.W.Frag) (C : Addr) : Bool := match K.lookup C with
  | some ⟨.type "type", _, .cls cd, sl⟩ => (match cd.mro, sl.toList with
    | .ref C' :: bm, [_, _, _, _, some (.builtin n), _] => C' == C && (n == "ValueError.__new__" && (!cd.hasDel && (cd.hasDict && PySem.HandSPX.refsVE bm)))
    | _, _ => false)
  | _ => false
def eqVO (a b : Option (Option Value)) : Bool := decide (a = b)
def oexA (K : PySem.W.Frag) (C : Addr) : Bool := oexB K C && (eqVO (PySem.W.findIn K (.ref C) "__setattr__") (some (some (.builtin "object.__setattr__"))) && (decide (PySem.W.subIn K (.ref C) (.type "BaseException") = some true) && (decide (PySem.W.typeIn K (.ref C) = some (.type "type")) && PySem.W.keepIn K (.ref C))))
theorem oex_of {K : PySem.W.Frag} {C : Addr} (h : oexA K C = true) : OexC K C := by
  obtain ⟨h1, h2⟩ := bsplit h
  obtain ⟨h2, h3⟩ := bsplit h2
  obtain ⟨h3, h4⟩ := bsplit h3
  obtain ⟨h4, h5⟩ := bsplit h4
  refine ⟨?_, of_decide_eq_true h2, of_decide_eq_true h3, of_decide_eq_true h4, h5⟩
  unfold oexB at h1
  split at h1
  · rename_i dd cd sl ho
    split at h1
    · rename_i C' bm k0 k1 k2 k3 n k5 hm hs
      simp only [Bool.and_eq_true, beq_iff_eq, Bool.not_eq_true'] at h1
      obtain ⟨rfl, rfl, q1, q2, q3⟩ := h1
      obtain ⟨nm, bs, mro, ns, qn, hd, sn, sub, ab, col, del⟩ := cd
      dsimp only at hm q1 q2
      subst hm q1 q2
      have hsl : sl = #[k0, k1, k2, k3, some (.builtin "ValueError.__new__"), k5] := by
        obtain ⟨l⟩ := sl
        simp only at hs
        rw [hs]
      subst hsl
      exact ⟨nm, qn, ns, bs, bm, sn, sub, ab, col, dd, k0, k1, k2, k3, k5, ho, q3⟩
    · cases h1
  · cases h1
def supB (K : PySem.W.Frag) (C D : Addr) (flds : List Str) : Bool := oexA K C && (decide (PySem.W.mroIn K C (.ref D) = some true) && (eqVO (PySem.W.ks_superIn K C D "__init__") (some (some (.builtin "ValueError.__init__"))) && (decide (PySem.W.subIn K (.ref C) (.type "ValueError") = some true) && flds.all fun f => eqVO (PySem.W.findIn K (.ref C) f) (some none))))
theorem sup_of {K : PySem.W.Frag} {C D : Addr} {flds : List Str} (h : supB K C D flds = true) : SupC K C D flds := by
  obtain ⟨h1, h2⟩ := bsplit h
  obtain ⟨h2, h3⟩ := bsplit h2
  obtain ⟨h3, h4⟩ := bsplit h3
  obtain ⟨h4, h5⟩ := bsplit h4
  exact ⟨oex_of h1, of_decide_eq_true h2, of_decide_eq_true h3, of_decide_eq_true h4, fun p hp => of_decide_eq_true (List.all_eq_true.mp h5 p hp)⟩
def iniC (K : PySem.W.Frag) (file : Str) (i : Ini) : Bool := match K.lookup (inA K i.C) with
  | some ⟨_, _, .func ⟨_, _, _, _, _, _, [(x, cc)], .none, _, _, _, _, .ref cd, _, _⟩, _⟩ => decide (x = "__class__") && (PySem.W.codeIn K (.ref cd) i.qual && ((match cdFile K cd with
    | some f => file == f
    | none => false) && (match clD K cc with
    | some D => (PySem.W.clsIn K D).isSome && supB K (He.ga K i.C) D i.flds
    | none => false)))
  | _ => false
def iniB (K : PySem.W.Frag) (file : Str) (i : Ini) : Bool := (He.Fa.glo i.C).ok K && (eqVO (PySem.W.findIn K (.ref (He.ga K i.C)) "__init__") (some (some (.ref (inA K i.C)))) && (decide (PySem.W.typeIn K (.ref (inA K i.C)) = some (.type "function")) && iniC K file i))
/-- what is known of such an __init__ -/
structure IniK (P : Program) (K : PySem.W.Frag) (mg : Str → Option Value) (i : Ini) : Prop where
  gl : mg i.C = some (.ref (He.ga K i.C))
  fi : PySem.W.findIn K (.ref (He.ga K i.C)) "__init__" = some (some (.ref (inA K i.C)))
  ty : PySem.W.typeIn K (.ref (inA K i.C)) = some (.type "function")
  sf : ∃ D cc cd fd, SupF P K i.qual i.params i.body i.scope (inA K i.C) D cc cd fd ∧ SupC K (He.ga K i.C) D i.flds ∧ ∃ (kV doc pm : Value) (an : Option Addr) (ct : Value), fd = PySem.W.ksFn "__init__" i.qual i.params i.body i.scope .none kV doc pm an (.ref cd) ct cc
theorem ini_of {P : Program} {K : PySem.W.Frag} {h : Heap} {mg : Str → Option Value} {i : Ini} (X : K.In h) (G : h.Ns mainGlobals mg) (e : inV K i.C = i.val) (c : iniB K P.main.file i = true) (hs : PySem.W.nsIn K mainGlobals "super" = some none) (ho : PySem.W.nsIn K cStatics "thirdparty.any" = some none)
    (ht : (P.main.scope.names.lookup ("super" : Str)).isSome = false) : IniK P K mg i := by
  obtain ⟨c1, c2⟩ := bsplit c
  obtain ⟨c2, c3⟩ := bsplit c2
  obtain ⟨c3, c4⟩ := bsplit c3
  refine ⟨He.glo_ok X G c1, of_decide_eq_true c2, of_decide_eq_true c3, ?_⟩
  unfold iniC at c4
  split at c4
  · rename_i oc od n1 n2 n3 n4 n5 n6 x cc n9 n10 n11 n12 cd n14 n15 osl q
    obtain ⟨c5, c6⟩ := bsplit c4
    obtain ⟨c6, c7⟩ := bsplit c6
    obtain ⟨c7, c8⟩ := bsplit c7
    have ex : x = "__class__" := of_decide_eq_true c5
    subst ex
    unfold inV at e
    rw [q] at e
    have e2 : (some (n1, n2, n3, n4, n5, n6, n15) : IniV) = (some ("__init__", i.qual, i.params, .stmts i.body, i.scope, mainGlobals, builtinsNs) : IniV) := e
    simp only [Option.some.injEq, Prod.mk.injEq] at e2
    obtain ⟨h1, h2, h3, h4, h5, h6, h7⟩ := e2
    subst h1 h2 h3 h4 h5 h6 h7
    cases q8 : clD K cc with
    | none => rw [q8] at c8; cases c8
    | some D =>
      rw [q8] at c8
      obtain ⟨c9, c10⟩ := bsplit c8
      have hrec : ∃ (ccl : Value) (cdd : Option Addr) (vs : Array Value) (ccs : Array (Option Value)) (file : Str) (tf : Tok), K.lookup cd = some ⟨ccl, cdd, .fields vs, ccs⟩ ∧ vs[2]? = some (.str file tf) ∧ ((P.main.file : Str) == file) = true := by
        unfold cdFile at c7
        split at c7
        · rename_i f hf
          split at hf
          · rename_i ccl cdd vs ccs lk
            split at hf
            · rename_i f' tf hv
              cases hf
              exact ⟨_, _, _, _, _, _, lk, hv, c7⟩
            · cases hf
          · cases hf
        · cases c7
      have hcell : ∃ (cl : Value) (cld : Option Addr) (csl : Array (Option Value)), K.lookup cc = some ⟨cl, cld, .cell (some (.ref D)), csl⟩ := by
        unfold clD at q8
        split at q8
        · rename_i lk
          cases q8
          exact ⟨_, _, _, lk⟩
        · cases q8
      exact ⟨D, cc, cd, _, ⟨⟨oc, od, .none, n9, n10, n11, n12, n14, osl, rfl, q⟩, c6, hrec, hcell, Option.isSome_iff_exists.mp c9, hs, ht, ho⟩, sup_of c10, n9, n10, n11, n12, n14, rfl⟩
  · cases c4
/-! ### types -/
def tyK (K : PySem.W.Frag) : Ty → Value
  | .b n => .type n
  | .o C => .ref (He.ga K C)
abbrev Cl := List (Str × List Str)
def g0 (cls exs : Cl) : Gr := { K := [], mg := fun _ => none, p := 0, c := 0, ns := [], cls := cls, exs := exs }
def tys (cls exs : Cl) : List Ty := knownB.map Ty.b ++ (cls.map (fun p => Ty.o p.1) ++ exs.map fun p => Ty.o p.1)
def isaB (cls exs : Cl) (K : PySem.W.Frag) : Bool := (tys cls exs).all fun t => (tys cls exs).all fun c => match isaT (g0 cls exs) t c with
  | some b => decide (PySem.W.kitOne K (tyK K t) (tyK K c) = some b)
  | none => true
def erB (K : PySem.W.Frag) (C : Addr) : Bool := (PySem.W.clsIn K C).isSome && (eqVO (PySem.W.findIn K (.ref C) "__getattribute__") (some (some (.builtin "BaseException.__getattribute__"))) && (eqVO (PySem.W.findIn K (.ref C) "__getattr__") (some none) && (PySem.W.hasDictIn K C && (decide (PySem.W.subIn K (.ref C) (.type "BaseException") = some true) &&
  (eqVO (PySem.W.findIn K (.ref C) "__class__") (some (some (.builtin "object.__class__"))) && (eqVO (PySem.W.specialIn K (.builtin "object.__class__") "__get__") (some (some (.builtin "getset_descriptor.__get__"))) && (decide (PySem.W.takesIn K (.builtin "object.__class__") = some true) && decide (PySem.W.mroIn K C (.type "object") = some true))))))))
theorem er_of {K : PySem.W.Frag} {C : Addr} (h : erB K C = true) : ErF K C := by
  obtain ⟨h1, h⟩ := bsplit h
  obtain ⟨h2, h⟩ := bsplit h
  obtain ⟨h3, h⟩ := bsplit h
  obtain ⟨h4, h⟩ := bsplit h
  obtain ⟨h5, h⟩ := bsplit h
  obtain ⟨h6, h⟩ := bsplit h
  obtain ⟨h7, h⟩ := bsplit h
  obtain ⟨h8, h9⟩ := bsplit h
  exact ⟨h1, of_decide_eq_true h2, of_decide_eq_true h3, h4, of_decide_eq_true h5, of_decide_eq_true h6, of_decide_eq_true h7, of_decide_eq_true h8, of_decide_eq_true h9⟩
def insB (K : PySem.W.Frag) (C : Addr) : Bool := PySem.W.plainGet K C Str.empty && (PySem.W.hasDictIn K C && (PySem.W.plainOver K C && (eqVO (PySem.W.findIn K (.ref C) "__setattr__") (some (some (.builtin "object.__setattr__"))) &&
  (eqVO (PySem.W.findIn K (.ref C) "__class__") (some (some (.builtin "object.__class__"))) && (eqVO (PySem.W.specialIn K (.builtin "object.__class__") "__get__") (some (some (.builtin "getset_descriptor.__get__"))) && (decide (PySem.W.takesIn K (.builtin "object.__class__") = some true) && decide (PySem.W.mroIn K C (.type "object") = some true)))))))
theorem ins_of {K : PySem.W.Frag} {C : Addr} (h : insB K C = true) : InsF K C := by
  obtain ⟨h1, h⟩ := bsplit h
  obtain ⟨h2, h⟩ := bsplit h
  obtain ⟨h3, h⟩ := bsplit h
  obtain ⟨h4, h⟩ := bsplit h
  obtain ⟨h6, h⟩ := bsplit h
  obtain ⟨h7, h⟩ := bsplit h
  obtain ⟨h8, h9⟩ := bsplit h
  exact ⟨⟨h1, h2, h3, of_decide_eq_true h4⟩, of_decide_eq_true h6, of_decide_eq_true h7, of_decide_eq_true h8, of_decide_eq_true h9⟩
def exmB (exs : Cl) (K : PySem.W.Frag) : Bool := exs.all fun p => p.2.all fun T => decide (PySem.W.exmOne K (.ref (He.ga K p.1)) (.ref (He.ga K T)) = some true)
def gloB (cls exs : Cl) (K : PySem.W.Frag) : Bool := cls.all (fun p => (He.Fa.glo p.1).ok K) && exs.all fun p => (He.Fa.glo p.1).ok K && p.2.all fun T => (He.Fa.glo T).ok K
/-- all of the ground -/
def grB (cls exs : Cl) (fld : List (Str × Str)) (K : PySem.W.Frag) : Bool := gloB cls exs K && (exmB exs K && ((fld.all fun q => (He.Fa.glo q.1).ok K && eqVO (PySem.W.findIn K (.ref (He.ga K q.1)) q.2) (some none)) && (exs.all (fun p => erB K (He.ga K p.1)) && (isaB cls exs K && cls.all fun p => insB K (He.ga K p.1)))))
theorem look_mem {α : Type} {C : Str} {v : α} : ∀ {l : List (Str × α)}, l.lookup C = some v → (C, v) ∈ l
  | [], h => by cases h
  | (x, y) :: r, h => by
    rw [List.lookup_cons] at h
    cases q : (C == x) with
    | true =>
      rw [q] at h
      cases h
      rw [beq_iff_eq.mp q]
      exact List.mem_cons_self
    | false =>
      rw [q] at h
      exact List.mem_cons_of_mem _ (look_mem h)
theorem look_some {α : Type} {C : Str} {l : List (Str × α)} (h : (l.lookup C).isSome = true) : ∃ v, (C, v) ∈ l := by
  obtain ⟨v, e⟩ := Option.isSome_iff_exists.mp h
  exact ⟨v, look_mem e⟩
def KnT (g : Gr) : Ty → Prop
  | .b n => n ∈ knownB
  | .o C => (supers g C).isSome = true
theorem gr_of {K : PySem.W.Frag} {h : Heap} {mg : Str → Option Value} {g : Gr} {cls exs : Cl} {fld : List (Str × Str)} (X : K.In h) (G : h.Ns mainGlobals mg) (c : grB cls exs fld K = true) (e1 : g.K = K) (e2 : g.mg = mg) (e3 : g.cls = cls) (e4 : g.exs = exs) (e5 : g.fld = fld) : GrF g := by
  subst e1 e2 e3 e4 e5
  obtain ⟨c0, c⟩ := bsplit c
  obtain ⟨c1, c⟩ := bsplit c
  obtain ⟨c2, c⟩ := bsplit c
  obtain ⟨c3, c⟩ := bsplit c
  obtain ⟨c4, c5⟩ := bsplit c
  obtain ⟨k1, k2⟩ := bsplit c0
  have ref : ∀ {x : Str} {a : Addr}, (He.Fa.glo x).ok g.K = true → g.mg x = some (.ref a) → a = He.ga g.K x := fun {x a} ok e => by
    have z := He.glo_ok X G ok
    rw [e] at z
    cases z
    rfl
  have gC : ∀ {C : Str} {l : List Str}, (C, l) ∈ g.cls → (He.Fa.glo C).ok g.K = true := fun {C l} m => List.all_eq_true.mp k1 _ m
  have gE : ∀ {C : Str} {l : List Str}, (C, l) ∈ g.exs → (He.Fa.glo C).ok g.K = true := fun {C l} m => (bsplit (List.all_eq_true.mp k2 _ m)).1
  have gT : ∀ {C T : Str} {l : List Str}, (C, l) ∈ g.exs → T ∈ l → (He.Fa.glo T).ok g.K = true := fun {C T l} m mt => List.all_eq_true.mp (bsplit (List.all_eq_true.mp k2 _ m)).2 _ mt
  refine ⟨fun C T ca ta l hl hT hc ht => ?_, fun C f a hf hC => ?_, fun C a hC hm => ?_, fun t c b tv cv hi h1 h2 => ?_, fun C a hC hm => ?_⟩
  · have m := look_mem hl
    have mt : T ∈ l := by simpa using hT
    rw [ref (gE m) hc, ref (gT m mt) ht]
    exact of_decide_eq_true (List.all_eq_true.mp (List.all_eq_true.mp c1 _ m) _ mt)
  · have m : (C, f) ∈ g.fld := by simpa using hf
    obtain ⟨z1, z2⟩ := bsplit (List.all_eq_true.mp c2 _ m)
    rw [ref z1 hC]
    exact of_decide_eq_true z2
  · obtain ⟨v, m⟩ := look_some hC
    rw [ref (gE m) hm]
    exact er_of (List.all_eq_true.mp c3 _ m)
  · have key : ∀ {t : Ty} {tv : Value}, KnT g t → TyV g t tv → t ∈ tys g.cls g.exs ∧ tv = tyK g.K t := fun {t tv} hk hv => by
      cases t with
      | b n => exact ⟨List.mem_append_left _ (List.mem_map_of_mem hk), hv⟩
      | o C =>
        obtain ⟨a, ha, rfl⟩ := hv
        have hk : (supers g C).isSome = true := hk
        unfold supers at hk
        cases q : g.cls.lookup C with
        | some l =>
          have m := look_mem q
          exact ⟨List.mem_append_right _ (List.mem_append_left _ (List.mem_map.mpr ⟨_, m, rfl⟩)), by rw [ref (gC m) ha]; rfl⟩
        | none =>
          rw [q] at hk
          obtain ⟨v, m⟩ := look_some hk
          exact ⟨List.mem_append_right _ (List.mem_append_right _ (List.mem_map.mpr ⟨_, m, rfl⟩)), by rw [ref (gE m) ha]; rfl⟩
    have both : KnT g t ∧ KnT g c := by
      cases t with
      | b n => cases c with
        | b m =>
          unfold isaT at hi
          by_cases z : n ∈ knownB ∧ m ∈ knownB
          · exact z
          · simp [z] at hi
        | o C =>
          unfold isaT at hi
          by_cases z : n ∈ knownB ∧ (supers g C).isSome = true
          · exact z
          · simp [z] at hi
      | o D => cases c with
        | b m =>
          unfold isaT at hi
          by_cases z : m ∈ knownB ∧ (supers g D).isSome = true
          · exact ⟨z.2, z.1⟩
          · simp [z] at hi
        | o C =>
          unfold isaT at hi
          have hi : (if (supers g C).isSome = true then (supers g D).map (·.contains C) else none) = some b := hi
          by_cases z : (supers g C).isSome = true
          · rw [if_pos z] at hi
            obtain ⟨l, e, _⟩ := Option.map_eq_some_iff.mp hi
            exact ⟨by show (supers g D).isSome = true; rw [e]; rfl, z⟩
          · simp [z] at hi
    obtain ⟨m1, rfl⟩ := key both.1 h1
    obtain ⟨m2, rfl⟩ := key both.2 h2
    have z := List.all_eq_true.mp (List.all_eq_true.mp c4 _ m1) _ m2
    have hi' : isaT (g0 g.cls g.exs) t c = some b := hi
    rw [hi'] at z
    exact of_decide_eq_true z
  · obtain ⟨v, m⟩ := look_some hC
    rw [ref (gC m) hm]
    exact ins_of (List.all_eq_true.mp c5 _ m)
end Dl

set_option maxHeartbeats 3900000
namespace Dl
open PySem
open PySem.Spec
open PyProof.Rows
open L2
/-! ### the head's Hook, by inits -/
def KY (n : Nat) (g : Addr → Option Obj) : PySem.W.Frag := He.frT g (cStatics :: He.asD g n)
structure SaysY (fa : List He.Fa) (fn : List He.DefD) (tf : List He.Defn) (ex : PySem.W.Frag → Bool) (inis : List Ini) (w : World) (h : Heap) (K : PySem.W.Frag) : Prop where
  x : He.SaysX fa fn [] tf ex w h K
  ini : (inis.map fun i => inV K i.C) = inis.map Ini.val
abbrev AlY : Type := He.AlX × List IniV
section
variable (n : Nat) (fa : List He.Fa) (fn : List He.DefD) (tf : List He.Defn) (ex : PySem.W.Frag → Bool) (inis : List Ini)
def obsY (g : Addr → Option Obj) : AlY := ((He.obsT fa fn [] (KY n g), ex (KY n g) && He.tabsB g tf (KY n g)), inis.map fun i => inV (KY n g) i.C)
def valY (w : World) : AlY := (He.valX fn [] w, inis.map Ini.val)
variable {n fa fn tf ex inis} in
theorem saysY_of {w : World} {h : Heap} (e : obsY n fa fn tf ex inis h.get? = valY fn inis w) : SaysY fa fn tf ex inis w h (KY n h.get?) := by
  have e0 : (He.obsT fa fn [] (KY n h.get?), ex (KY n h.get?) && He.tabsB h.get? tf (KY n h.get?)) = He.valX fn [] w := congrArg Prod.fst e
  have e3 : (inis.map fun i => inV (KY n h.get?) i.C) = inis.map Ini.val := congrArg Prod.snd e
  have e1 : He.obsT fa fn [] (KY n h.get?) = He.valT fn [] w := congrArg Prod.fst e0
  have e2 : (ex (KY n h.get?) && He.tabsB h.get? tf (KY n h.get?)) = true := congrArg Prod.snd e0
  obtain ⟨k1, k2⟩ := bsplit e2
  have at_ : ∀ p ∈ tf, ∃ o, h.get? (He.cT (KY n h.get?) p).2 = some o ∧ He.emptyTab o = true ∧ PySem.W.codeHdIn (KY n h.get?) (He.cT (KY n h.get?) p).1 (He.cT (KY n h.get?) p).2 = true := fun p hp => by
    obtain ⟨z1, z2⟩ := bsplit (List.all_eq_true.mp k2 p hp)
    cases q : h.get? (He.cT (KY n h.get?) p).2 with
    | some o =>
      rw [q] at z2
      exact ⟨o, rfl, z2, z1⟩
    | none => rw [q] at z2; cases z2
  refine ⟨⟨e1, k1, fun p hp => ?_, fun p hp => ?_, fun p hp => ?_⟩, e3⟩
  · obtain ⟨_, _, _, z⟩ := at_ p hp
    exact z
  · obtain ⟨_, z1, z2, _⟩ := at_ p hp
    exact He.frT_none z1 z2
  · obtain ⟨_, z1, z2, _⟩ := at_ p hp
    exact z1.trans (congrArg some (He.emptyTab_eq z2))
def hookY : PySem.W.Hook where
  α := AlY
  obs s := obsY n fa fn tf ex inis s.heap.get?
  val w := valY fn inis w
  says w h := ∃ K : PySem.W.Frag, K.In h ∧ SaysY fa fn tf ex inis w h K
  of _ _ e := ⟨_, He.frT_in, saysY_of e⟩
  keeps _ _ _ := fun ⟨K, hK, c⟩ k => ⟨K, PySem.W.Frag.In.keeps hK k, ⟨⟨c.x.t, c.x.more, c.x.hd, c.x.out, fun p hp => k _ _ (c.x.empty p hp)⟩, c.ini⟩⟩
variable {n fa fn tf ex inis} in
theorem obsY_eq {g : Addr → Option Obj} {s : Shared} (h : ∀ a, g a = s.heap.get? a) : obsY n fa fn tf ex inis g = (hookY n fa fn tf ex inis).obs s := by
  cases (funext h : g = s.heap.get?)
  rfl
end
/-- the init's facts -/
def exY (cls exs : Cl) (fld : List (Str × Str)) (inis : List Ini) (file : Str) (K : PySem.W.Frag) : Bool := grB cls exs fld K && (eqVO (PySem.W.nsIn K mainGlobals "super") (some none) && (eqVO (PySem.W.nsIn K cStatics "thirdparty.any") (some none) && inis.all fun i => iniB K file i))
theorem SaysY.ini_at {fa : List He.Fa} {fn : List He.DefD} {tf : List He.Defn} {cls exs : Cl} {fld : List (Str × Str)} {inis : List Ini} {w : World} {h h' : Heap} {K : PySem.W.Frag} {P : Program} {mg : Str → Option Value} (c : SaysY fa fn tf (exY cls exs fld inis P.main.file) inis w h' K) (X : K.In h) (G : h.Ns mainGlobals mg)
    (ht : (P.main.scope.names.lookup ("super" : Str)).isSome = false) (j : Nat) {i : Ini} (hi : inis[j]? = some i := by rfl) : IniK P K mg i := by
  obtain ⟨_, k⟩ := bsplit c.x.more
  obtain ⟨k1, k⟩ := bsplit k
  obtain ⟨k2, k3⟩ := bsplit k
  have e : (inis.map fun i => inV K i.C)[j]? = (inis.map Ini.val)[j]? := by rw [c.ini]
  rw [List.getElem?_map, List.getElem?_map, hi] at e
  exact ini_of X G (Option.some.inj e) (List.all_eq_true.mp k3 i (List.mem_of_getElem? hi)) (of_decide_eq_true k1) (of_decide_eq_true k2) ht
theorem SaysY.gr {fa : List He.Fa} {fn : List He.DefD} {tf : List He.Defn} {cls exs : Cl} {fld : List (Str × Str)} {inis : List Ini} {w : World} {h h' : Heap} {K : PySem.W.Frag} {file : Str} {mg : Str → Option Value} {g : Gr} (c : SaysY fa fn tf (exY cls exs fld inis file) inis w h' K) (X : K.In h) (G : h.Ns mainGlobals mg)
    (e1 : g.K = K := by rfl) (e2 : g.mg = mg := by rfl) (e3 : g.cls = cls := by rfl) (e4 : g.exs = exs := by rfl) (e5 : g.fld = fld := by rfl) : GrF g :=
  gr_of X G (bsplit c.x.more).1 e1 e2 e3 e4 e5
end Dl

set_option maxHeartbeats 3900000
namespace Dl
open PySem
open PySem.Spec
open PyProof.Rows
open L2
/-! ### the end: the law's def keeps its promise where no repr is under way -/
abbrev tabO : Obj := { cls := .none, data := .fields #[] }
abbrev lstO (vs : List Value) : Obj := { cls := .type "list", data := .seq vs.toArray }
/-- what is tracked at the call: the tables, and the script where the written part lacks it -/
def atCall (ts : List Addr) (lone : Bool) (a : Addr) (vs : List Value) (ns : List Int) : Hp := fun b => if b ∈ ts then some (.tbl #[]) else match lone && decide (b = a) with
  | true => some (.frz (lstO vs) (.lst (ns.map V.int)))
  | false => none
section
variable {ts : List Addr} {lone : Bool} {a b : Addr} {vs : List Value} {ns : List Int}
theorem atCall_tab (h : b ∈ ts) : atCall ts lone a vs ns b = some (.tbl #[]) := if_pos h
theorem atCall_out (h : b ∉ ts) : atCall ts lone a vs ns b = (match lone && decide (b = a) with
  | true => some (.frz (lstO vs) (.lst (ns.map V.int)))
  | false => none) := if_neg h
theorem atCall_by (ts : List Addr) (lone : Bool) (a b : Addr) (vs : List Value) (ns : List Int) : atCall ts lone a vs ns b = none ∨ (b ∈ ts ∧ atCall ts lone a vs ns b = some (.tbl #[])) ∨ (b ∉ ts ∧ lone = true ∧ b = a ∧ atCall ts lone a vs ns b = some (.frz (lstO vs) (.lst (ns.map V.int)))) := by
  by_cases h : b ∈ ts
  · exact .inr (.inl ⟨h, atCall_tab h⟩)
  · rw [atCall_out h]
    cases lone with
    | false => exact .inl rfl
    | true =>
      by_cases z : b = a
      · subst z
        have e : (true && decide (b = b)) = true := by simp
        exact .inr (.inr ⟨h, rfl, rfl, by rw [e]⟩)
      · have e : (true && decide (b = a)) = false := by simp [z]
        exact .inl (by rw [e])
end
theorem callR {P : Program} {w : World} {K : PySem.W.Frag} {mg mb : Str → Option Value} {k : Nat} {fa a : Addr} {cs : List (Addr × Addr)} {fd : FuncData} {x : Str} {sp : L2.Sp} {s₁ : Shared} {vs : List Value} {ns : List Int}
    (kIn : K.In s₁.heap) (gNs : s₁.heap.Ns mainGlobals mg) (bNs : s₁.heap.Ns builtinsNs mb) (bBoot : ∀ y : Str, y ≠ "__name__" → mb y = bootBuiltins y) (noLim : s₁.heap.NoLimit) (noGen : s₁.gens = #[])
    (tE : ∀ p ∈ cs, s₁.heap.get? p.2 = some tabO) (tK : ∀ p ∈ cs, K.lookup p.2 = none) (tC : ∀ p ∈ cs, PySem.W.CodeHd s₁.heap p.1 p.2)
    (bMod : ∃ (m : Addr) (mo : Obj), mg "__builtins__" = some (.ref m) ∧ m ≠ builtinsNs ∧ s₁.heap.get? m = some mo ∧ mo.cls = .type "module" ∧ mo.dict = some builtinsNs ∧ mo.data = .plain)
    (sA : s₁.heap.get? a = some (lstO vs)) (sI : IntsAre vs ns) (sL : ns.length ≤ sizeLine) (room : Room k callerA)
    (keeps : ∀ base : Heap, K.In base → base.Ns mainGlobals mg → (∀ p ∈ cs, LamX.TabB base mg p.1 p.2) → FnR true P w K mg base k fa fd [x] sp) (takes : ∀ (s : Shared) (u : Value), BindsTo s fd ⟨[u], []⟩ [(x, u)])
    (says : ∀ H : Hp, (∀ p ∈ cs, H p.2 = some (.tbl #[])) → SqL K H a (ns.map V.int) → sp [.ref a] H (fun v _ => v = .bl true) fun _ _ _ => False) :
    codeAny (model P w) callerA (.call (.ref fa) ⟨[.ref a], []⟩) (fun r s' => r = .ok (.ret (.bool true)) ∧ OldK s₁.heap s'.heap ∧ s'.os = s₁.os ∧ AllBare s'.gens) s₁ := by
  have vI := vals_ints sI
  have sLen : vs.length = ns.length := sI.length
  have tB : ∀ b ∈ cs.map Prod.snd, s₁.heap.get? b = some tabO := fun b hb => by
    obtain ⟨p, hp, rfl⟩ := List.mem_map.mp hb
    exact tE p hp
  have tM : ∀ p ∈ cs, p.2 ∈ cs.map Prod.snd := fun p hp => List.mem_map_of_mem hp
  have aOut : a ∉ cs.map Prod.snd := fun z => by
    have q := sA.symm.trans (tB a z)
    have d : Data.seq vs.toArray _ = Data.fields #[] := congrArg Obj.data (Option.some.inj q)
    cases d
  obtain ⟨H, hH⟩ : ∃ H : Hp, H = atCall (cs.map Prod.snd) (K.lookup a).isNone a vs ns := ⟨_, rfl⟩
  have hBy : ∀ b, H b = none ∨ (b ∈ cs.map Prod.snd ∧ H b = some (.tbl #[])) ∨ (b ∉ cs.map Prod.snd ∧ (K.lookup a).isNone = true ∧ b = a ∧ H b = some (.frz (lstO vs) (.lst (ns.map V.int)))) := fun b => by
    rw [hH]
    exact atCall_by ..
  have hTab : ∀ p ∈ cs, H p.2 = some (.tbl #[]) := fun p hp => by
    rw [hH]
    exact atCall_tab (tM p hp)
  -- what stands there is a table or the script
  have free : ∀ {b : Addr} {o : Obj}, s₁.heap.get? b = some o → (∀ its n, o.data ≠ .seq its n) → o.data ≠ .fields #[] → H b = none := fun {b o} e n1 n2 => by
    rcases hBy b with z | ⟨z, _⟩ | ⟨_, _, z, _⟩
    · exact z
    · rw [tB b z] at e
      cases e
      exact absurd rfl n2
    · rw [z, sA] at e
      cases e
      exact absurd rfl (n1 _ _)
  have dicts : ∀ {b : Addr} {m : Str → Option Value}, s₁.heap.Ns b m → (hidT s₁.heap H).Ns b m := fun {b m} ⟨o, es, ep, e, d, r⟩ => ⟨o, es, ep, hidT_get e (free e (fun _ _ z => by rw [d] at z; cases z) fun z => by rw [d] at z; cases z), d, r⟩
  have kHid : K.In (hidT s₁.heap H) := fun b o e => hidT_get (kIn b o e) <| by
    rcases hBy b with z | ⟨z, _⟩ | ⟨_, y, z, _⟩
    · exact z
    · obtain ⟨p, hp, rfl⟩ := List.mem_map.mp z
      rw [tK p hp] at e
      cases e
    · rw [z] at e
      rw [e] at y
      cases y
  have hOk : HOk P w H s₁.heap := fun b u e => by
    rcases hBy b with z | ⟨z, y⟩ | ⟨_, _, z, y⟩
    · rw [z] at e; cases e
    · rw [y] at e
      cases e
      exact tB b z
    · rw [y] at e
      cases e
      rw [z]
      exact ⟨sA, by rw [List.length_map]; exact sL, vs, _, vI, sA⟩
  have sSq : SqL K H a (ns.map V.int) := by
    cases q : K.lookup a with
    | some o =>
      have e := (kIn a o q).symm.trans sA
      cases e
      exact .inr ⟨_, vs.toArray, _, q, rfl, rfl, rfl, by rw [List.size_toArray, sLen]; exact sL, by simpa using vI⟩
    | none =>
      refine .inl (.inr ⟨lstO vs, ?_⟩)
      have e : ((K.lookup a).isNone && decide (a = a)) = true := by rw [q]; simp
      rw [hH, atCall_out aOut, e]
  have tabs : ∀ p ∈ cs, LamX.TabB (hidT s₁.heap H) mg p.1 p.2 := fun p hp => by
    obtain ⟨m, mo, m1, m2, m3, m4, m5, m6⟩ := bMod
    obtain ⟨o, us, file, tf, flags, tg, inF, text, tt, c1, c2, c3, c4, c5⟩ := tC p hp
    refine ⟨⟨o, us, file, tf, flags, tg, inF, text, tt, hidT_get c1 (free c1 (fun _ _ z => by rw [c3] at z; cases z) fun z => ?_), c2, c3, c4, c5⟩, ⟨m, mo, m1, m2, fun z => ?_, fun z => ?_, hidT_get m3 (free m3 (fun _ _ z => by rw [m6] at z; cases z) fun z => by rw [m6] at z; cases z), m4, m5, m6⟩, fun z => ?_⟩
    · rw [c3] at z
      cases z
      simp at c4
    · obtain ⟨o', es, ep, e, d, _⟩ := gNs
      rw [z, e] at m3
      cases m3
      rw [d] at m6
      cases m6
    · rw [z, tE p hp] at m3
      cases m3
      cases m6
    · obtain ⟨o', es, ep, e, d, _⟩ := gNs
      rw [z, tE p hp] at e
      cases e
      cases d
  have md : L2.Mod K mg (hidT s₁.heap H) := ⟨kHid, dicts gNs, ⟨mb, dicts bNs, bBoot⟩, let ⟨mc, z1, z2⟩ := noLim; ⟨mc, dicts z1, z2⟩⟩
  have ent : Env0 P w K mg (hidT s₁.heap H) callerA [] s₁ H := ⟨rfl, md, fun _ _ => of_hidT, Nat.le_of_eq (hidT_size ..), True.intro, fun b hb => (List.not_mem_nil (show b ∈ ([] : List Addr) from hb)).elim, hOk, .of_eq noGen⟩
  refine codeAny_mono ((keeps _ kHid (dicts gNs) tabs).run callerA [] s₁ H ⟨[.ref a], []⟩ [.ref a] [.ref a] _ _ (fun _ => rfl) room ent (takes s₁ (.ref a)) (.cons rfl .nil) (says H hTab sSq)) fun r s' hq => ?_
  match r, hq with
  | .error e, hq =>
    obtain ⟨_, _, _, _, _, _, _, _, _, _, _, _, z⟩ := hq
    exact z.elim
  | .ok .next, hq => exact False.elim hq
  | .ok .brk, hq => exact False.elim hq
  | .ok .cont, hq => exact False.elim hq
  | .ok (.ret u), ⟨v, H', eOs, eBare, eUn, eOk, eRel, eQ⟩ =>
    cases (show v = .bl true from eQ)
    cases (show u = Value.bool true from eRel)
    have same : ∀ b o, b ∉ cs.map Prod.snd → s₁.heap.get? b = some o → s'.heap.get? b = some o := fun b o nb e => by
      rcases hBy b with z | ⟨z, _⟩ | ⟨_, _, _, z⟩
      · exact eUn.keep b o e z (fun q => by cases (show b ∈ ([] : List Addr) from q)) (by simp)
      · exact absurd z nb
      · have o1 := (hOk b _ z).1
        rw [e] at o1
        cases o1
        exact (eOk b _ (eUn.frzs b _ _ z)).1
    have more : ∀ p ∈ cs, ∃ l : Array Value, s'.heap.get? p.2 = some { cls := .none, data := .fields l } := fun p hp => by
      obtain ⟨l, z⟩ := eUn.tbls p.2 #[] (hTab p hp)
      exact ⟨_, eOk p.2 _ z⟩
    refine ⟨rfl, ⟨fun b o e => ?_, fun b o e => ?_⟩, eOs, eBare⟩
    · by_cases hb : b ∈ cs.map Prod.snd
      · obtain ⟨p, hp, rfl⟩ := List.mem_map.mp hb
        obtain ⟨l, hl⟩ := more p hp
        have eo := (tE p hp).symm.trans e
        cases eo
        refine .inr (.inl ⟨((tC p hp).tab (tE p hp)).isCodeTable, rfl, #[], l, rfl, ?_⟩)
        rw [Array.empty_append]
        exact hl
      · exact .inl (same b o hb e)
    · by_cases hb : b ∈ cs.map Prod.snd
      · obtain ⟨p, hp, rfl⟩ := List.mem_map.mp hb
        obtain ⟨l, hl⟩ := more p hp
        exact ⟨_, hl⟩
      · exact ⟨o, same b o hb e⟩
/-- what the head gives of the law's def -/
structure EndR (l : PySem.W.OpenLaw) (w : World) (k n : Nat) (x : Str) (mg : Str → Option Value) (fa : Addr) (h : Heap) : Prop where
  ex : ∃ (K : PySem.W.Frag) (fd : FuncData) (cs : List (Addr × Addr)) (sp : L2.Sp), K.In h ∧ (∀ p ∈ cs, h.get? p.2 = some tabO) ∧ (∀ p ∈ cs, K.lookup p.2 = none) ∧ (∀ p ∈ cs, PySem.W.CodeHd h p.1 p.2) ∧ (∀ (s : Shared) (u : Value), BindsTo s fd ⟨[u], []⟩ [(x, u)]) ∧
    (∀ (H : Hp) (a : Addr) (ns : List Int), ns.length ≤ n → (∀ p ∈ cs, H p.2 = some (.tbl #[])) → SqL K H a (ns.map V.int) → sp [.ref a] H (fun v _ => v = .bl true) fun _ _ _ => False) ∧
    ∀ base : Heap, K.In base → base.Ns mainGlobals mg → (∀ p ∈ cs, LamX.TabB base mg p.1 p.2) → FnR true l.prog w K mg base k fa fd [x] sp
theorem walkR {l : PySem.W.OpenLaw} {n k : Nat} {q : Program} {loose : List Str} {XP : (Str → Option Value) → Heap → Prop} {YP : World → Heap → Prop} {d : DefRec} {x : Str} (hn : l.most = some n) (hs : n ≤ sizeLine) (hd : d.params.defaults = []) (room : Room k callerA)
    (F : ∀ (w : World) (mg : Str → Option Value) (fa : Addr) (h : Heap), YP w h → h.Ns mainGlobals mg → mg d.name = some (.ref fa) → EndR l w k n x mg fa h) : PySem.W.WalkO q loose XP YP l.row.toRowW d [] (fun f vs => PySem.call f vs) := by
  refine Att.attach_callB hn hd fun w s₀ s₁ mg mb fa o pm cd doc a vs ns G Y _ _ _ g1 g2 g3 g4 _ g6 => ?_
  obtain ⟨K, fd, cs, sp, kIn, tE, tK, tC, hb, hsp, hF⟩ := (F w mg fa _ Y G.T.g g1).ex
  exact callR kIn G.T.g G.T.b G.T.builtins G.T.nolimit g6 tE tK tC G.T.bmain g2 g3 (Nat.le_trans g4 hs) room hF hb fun H h1 h2 => hsp H a ns g4 h1 h2
end Dl

set_option maxHeartbeats 0
namespace Hd
open PySem
open PySem.Spec
open PyProof.Rows
open L2
abbrev Pg : Program := PySem.Challenge.pw_staytrue_k61_whole_least_plain_rules
def top (i : Nat) : Stmt := Pg.main.body.getD i (.Pass ⟨0, 0, 0, 0⟩)
def sub (i j : Nat) : Stmt := match top i with
  | .ClassDef (body := b) .. => b.getD j (.Pass ⟨0, 0, 0, 0⟩)
  | _ => .Pass ⟨0, 0, 0, 0⟩
abbrev s_is_integer : Stmt := top 1
abbrev s_is_within : Stmt := top 2
abbrev s_need_within : Stmt := top 21
abbrev s_need_plain : Stmt := top 22
abbrev s_together : Stmt := top 23
abbrev s_plain_bears : Stmt := top 24
abbrev s_plain_ends : Stmt := top 25
abbrev s_plain_pairs : Stmt := top 26
abbrev s_least_plain : Stmt := top 27
abbrev s__law_pen : Stmt := top 29
abbrev s__law_draw : Stmt := top 30
abbrev s__law_pick : Stmt := top 31
abbrev s__law_heard : Stmt := top 32
abbrev s_law : Stmt := top 33
def d_is_integer : He.DefD := ⟨("is_integer", none), "is_integer", "is_integer", defArgs s_is_integer, defBody s_is_integer, defScope s_is_integer, [], []⟩
def d_is_within : He.DefD := ⟨("is_within", none), "is_within", "is_within", defArgs s_is_within, defBody s_is_within, defScope s_is_within, [], []⟩
def d_need_within : He.DefD := ⟨("need_within", none), "need_within", "need_within", defArgs s_need_within, defBody s_need_within, defScope s_need_within, [], []⟩
def d_need_plain : He.DefD := ⟨("need_plain", none), "need_plain", "need_plain", defArgs s_need_plain, defBody s_need_plain, defScope s_need_plain, [], []⟩
def d_together : He.DefD := ⟨("together", none), "together", "together", defArgs s_together, defBody s_together, defScope s_together, [], []⟩
def d_plain_bears : He.DefD := ⟨("plain_bears", none), "plain_bears", "plain_bears", defArgs s_plain_bears, defBody s_plain_bears, defScope s_plain_bears, [], []⟩
def d_plain_ends : He.DefD := ⟨("plain_ends", none), "plain_ends", "plain_ends", defArgs s_plain_ends, defBody s_plain_ends, defScope s_plain_ends, [], []⟩
def d_plain_pairs : He.DefD := ⟨("plain_pairs", none), "plain_pairs", "plain_pairs", defArgs s_plain_pairs, defBody s_plain_pairs, defScope s_plain_pairs, [], []⟩
def d_least_plain : He.DefD := ⟨("least_plain", none), "least_plain", "least_plain", defArgs s_least_plain, defBody s_least_plain, defScope s_least_plain, [], []⟩
def d__law_pen : He.DefD := ⟨("_law_pen", none), "_law_pen", "_law_pen", defArgs s__law_pen, defBody s__law_pen, defScope s__law_pen, [], []⟩
def d__law_draw : He.DefD := ⟨("_law_draw", none), "_law_draw", "_law_draw", defArgs s__law_draw, defBody s__law_draw, defScope s__law_draw, [], []⟩
def d__law_pick : He.DefD := ⟨("_law_pick", none), "_law_pick", "_law_pick", defArgs s__law_pick, defBody s__law_pick, defScope s__law_pick, [], []⟩
def d__law_heard : He.DefD := ⟨("_law_heard", none), "_law_heard", "_law_heard", defArgs s__law_heard, defBody s__law_heard, defScope s__law_heard, [], []⟩
def d_law : He.DefD := ⟨("law", none), "law", "law", defArgs s_law, defBody s_law, defScope s_law, [], []⟩
def fn : List He.DefD := [d_is_integer, d_is_within, d_need_within, d_need_plain, d_together, d_plain_bears, d_plain_ends, d_plain_pairs, d_least_plain, d__law_pen, d__law_draw, d__law_pick, d__law_heard, d_law]
def fa : List He.Fa := [.glo "is_integer", .glo "is_within", .glo "TrueError", .glo "PartError", .glo "ValueKept", .glo "BadName", .glo "BadNumber", .glo "BadBook", .glo "BadRow", .glo "BadChange", .glo "BadRule", .glo "BadAsk", .glo "Clashing", .glo "BadText", .glo "NoHost", .glo "TooMany", .int "MOST_COPIES" 5, .int "MOST_CHANGES" 5, .glo "need_within", .glo "need_plain", .glo "together", .glo "plain_bears", .glo "plain_ends", .glo "plain_pairs", .glo "least_plain", .glo "_law_pen", .glo "_law_draw", .glo "_law_pick", .glo "_law_heard", .glo "law", .free "ValueError", .free "abs", .free "bool", .free "int", .free "isinstance", .free "len", .free "list", .free "max", .free "min", .free "range", .free "repr", .free "super", .free "tuple"]
abbrev R : PySem.W.OpenRow := PySem.W.OpenLaw.row PySem.Challenge.rw_staytrue_k61_whole_least_plain_rules
def ex (K : PySem.W.Frag) : Bool := true
def tf : List He.Defn := [("law", none)]
def lo0 : List Str := ["__name__", "is_integer", "is_within", "TrueError", "PartError", "ValueKept", "BadName", "BadNumber", "BadBook", "BadRow", "BadChange", "BadRule", "BadAsk", "Clashing", "BadText", "NoHost", "TooMany", "MOST_COPIES", "MOST_CHANGES", "need_within", "need_plain", "together", "plain_bears", "plain_ends", "plain_pairs", "least_plain", "_law_pen", "_law_draw", "_law_pick", "_law_heard"]
def loose : List Str := lo0
end Hd

set_option maxHeartbeats 3900000
namespace Sp
open PySem
open PySem.Spec
open PyProof.Rows
open L2
open Dl
/-- a value, an error, or nothing is promised -/
def runE {α : Type} (a : Option (Except X α)) (P : α → Prop) (R : X → Prop) : Prop := match a with
  | some (.ok d) => P d
  | some (.error x) => R x
  | none => False
/-- a promise by a function -/
def spX (F : List D → Option (Except X D)) : DSp := fun ds n P R => runE (F ds) (fun d => P d n) (fun x => R x n)
/-- isinstance of int and not of bool -/
def intQ : D → Option Bool
  | .int _ => some true
  | .bl _ => some false
  | .str _ => some false
  | .non => some false
  | .tup _ => some false
  | .lst _ => some false
  | _ => none
def withinQ (d : D) (l m : Int) : Option Bool := match d with
  | .int v => some (decide (l ≤ v) && decide (v ≤ m))
  | d => intQ d
def F_BadNumber : List Str := ["part"]
def F_Clashing : List Str := ["part"]
def bad (C p : Str) : X := (C, [("part", .str p)])
def bindE {α β : Type} (a : Option (Except X α)) (k : α → Option (Except X β)) : Option (Except X β) := match a with
  | some (.ok x) => k x
  | some (.error e) => some (.error e)
  | none => none
theorem runE_bind {α β : Type} {a : Option (Except X α)} {k : α → Option (Except X β)} {P : β → Prop} {R : X → Prop} : runE (bindE a k) P R ↔ runE a (fun x => runE (k x) P R) R := by
  unfold bindE
  cases a with
  | none => exact Iff.rfl
  | some z => cases z <;> exact Iff.rfl
theorem runE_mono {α : Type} {a : Option (Except X α)} {P P' : α → Prop} {R R' : X → Prop} (h : runE a P R) (hP : ∀ x, P x → P' x) (hR : ∀ x, R x → R' x) : runE a P' R' := by
  cases a with
  | none => exact h
  | some z => cases z <;> first | exact hP _ h | exact hR _ h
def fn_is_integer : List D → Option (Except X D)
  | [d] => (intQ d).map fun b => .ok (.bl b)
  | _ => none
def fn_is_within : List D → Option (Except X D)
  | [d, .int l, .int m] => (withinQ d l m).map fun b => .ok (.bl b)
  | _ => none
def needW (p : Str) (d : D) (l m : Int) : Option (Except X Unit) := (withinQ d l m).map fun b => if b then .ok () else .error (bad "BadNumber" p)
def fn_need_within : List D → Option (Except X D)
  | [.str p, d, .int l, .int m] => bindE (needW p d l m) fun _ => some (.ok .non)
  | _ => none
def needP (c r k : D) : Option (Except X Unit) := bindE (needW "copies" c 1 5) fun _ => match c with
  | .int cv => bindE (needW "read" r 1 cv) fun _ => needW "keep" k 1 cv
  | _ => none
def fn_need_plain : List D → Option (Except X D)
  | [c, r, k] => bindE (needP c r k) fun _ => some (.ok .non)
  | _ => none
def maxI (a b : Int) : Int := if b > a then b else a
def minI (a b : Int) : Int := if b < a then b else a
def togI (c o ch : Int) : Int := maxI c o + minI3 c o ch
def fn_together : List D → Option (Except X D)
  | [.int c, .int o, .int ch] => some (.ok (.int (togI c o ch)))
  | _ => none
/-- four whole numbers -/
def row4 (c r k l : Int) : D := .tup [.int c, .int r, .int k, .int l]
def seqD : D → Option (List D)
  | .lst xs => some xs
  | .tup xs => some xs
  | .int _ => some []
  | .bl _ => some []
  | .str _ => some []
  | .non => some []
  | _ => none
def needRow (p : Str) (v : D) : Option (Except X Unit) := match seqD v with
  | some [c, r, k, l] => bindE (needP c r k) fun _ => needW "liars" l 0 5
  | some _ => some (.error (bad "BadNumber" p))
  | none => none
def bearsI (c r k l c' r' k' l' ch : Int) : Bool := decide (minI (k + r') (r + k') > togI c c' ch + minI l l')
def fn_plain_bears : List D → Option (Except X D)
  | [one, other, ch] => bindE (needRow "one" one) fun _ => bindE (needRow "other" other) fun _ => bindE (needW "changes" ch 0 5) fun _ => match seqD one, seqD other, ch with
    | some [.int c, .int r, .int k, .int l], some [.int c', .int r', .int k', .int l'], .int h => some (.ok (.bl (bearsI c r k l c' r' k' l' h)))
    | _, _, _ => none
  | _ => none
def endsI (c r k l f : Int) : Bool := decide (c - f ≥ maxI r k) && decide (f + l < minI r k)
def fn_plain_ends : List D → Option (Except X D)
  | [c, r, k, l, f] => bindE (needP c r k) fun _ => bindE (needW "liars" l 0 5) fun _ => bindE (needW "falls" f 0 5) fun _ => match c, r, k, l, f with
    | .int c, .int r, .int k, .int l, .int f => some (.ok (.bl (endsI c r k l f)))
    | _, _, _, _, _ => none
  | _ => none
def pairsI (c l f ch : Int) : List (Int × Int) := ((List.range c.toNat).map fun (i : Nat) => (List.range c.toNat).filterMap fun (j : Nat) => if endsI c (1 + i) (1 + j) l f && bearsI c (1 + i) (1 + j) l c (1 + i) (1 + j) l ch then some ((1 + (i : Int)), (1 + (j : Int))) else none).flatten
def cpD (q : Int × Int) : D := .tup [.int q.1, .int q.2]
def fn_plain_pairs : List D → Option (Except X D)
  | [c, l, f, ch] => bindE (needW "copies" c 1 5) fun _ => bindE (needW "liars" l 0 5) fun _ => bindE (needW "falls" f 0 5) fun _ => bindE (needW "changes" ch 0 5) fun _ => match c, l, f, ch with
    | .int c, .int l, .int f, .int ch => some (.ok (.tup ((pairsI c l f ch).map cpD)))
    | _, _, _, _ => none
  | _ => none
def fn_least_plain : List D → Option (Except X D)
  | [l, f, ch] => bindE (needW "liars" l 0 5) fun _ => bindE (needW "falls" f 0 5) fun _ => bindE (needW "changes" ch 0 5) fun _ => match l, f, ch with
    | .int l, .int f, .int ch => if 2 * f + ch + l + 1 > 5 then some (.error (bad "Clashing" "copies")) else some (.ok (.tup [.int (2 * f + ch + l + 1), .int (2 * f + ch + l + 1 - f), .int (2 * f + ch + l + 1 - f)]))
    | _, _, _ => none
  | _ => none
def sp_is_integer : DSp := spX fn_is_integer
def sp_is_within : DSp := spX fn_is_within
def sp_need_within : DSp := spX fn_need_within
def sp_need_plain : DSp := spX fn_need_plain
def sp_together : DSp := spX fn_together
def sp_plain_bears : DSp := spX fn_plain_bears
def sp_plain_ends : DSp := spX fn_plain_ends
def sp_plain_pairs : DSp := spX fn_plain_pairs
def sp_least_plain : DSp := spX fn_least_plain
/-- one draw: any number below many -/
def sp__law_draw : DSp := fun ds n P _ => ∃ m : Int, ds = [.pen, .int m] ∧ 0 < m ∧ m < 1073741824 ∧ 0 < n ∧ ∀ i : Int, 0 ≤ i → i < m → P (.int i) (n - 1)
def itemsOf : D → Option (List D)
  | .lst xs => some xs
  | .tup xs => some xs
  | _ => none
def sp__law_pick : DSp := fun ds n P _ => ∃ d xs, ds = [.pen, d] ∧ itemsOf d = some xs ∧ 0 < xs.length ∧ xs.length < 1073741824 ∧ 0 < n ∧ ∀ x ∈ xs, P x (n - 1)
def EXS : List (Str × List Str) := [("TrueError", ["TrueError"]), ("PartError", ["PartError", "TrueError"]), ("ValueKept", ["ValueKept", "TrueError"]), ("BadName", ["BadName", "PartError", "TrueError"]), ("BadNumber", ["BadNumber", "PartError", "TrueError"]), ("BadBook", ["BadBook", "PartError", "TrueError"]), ("BadRow", ["BadRow", "PartError", "TrueError"]), ("BadChange", ["BadChange", "ValueKept", "TrueError"]), ("BadRule", ["BadRule", "PartError", "TrueError"]), ("BadAsk", ["BadAsk", "PartError", "TrueError"]), ("Clashing", ["Clashing", "PartError", "TrueError"]), ("BadText", ["BadText", "TrueError"]), ("NoHost", ["NoHost", "TrueError"]), ("TooMany", ["TooMany", "TrueError"])]
def CLS : List (Str × List Str) := []
def FLD : List (Str × Str) := [("PartError", "part"), ("ValueKept", "value"), ("BadName", "part"), ("BadNumber", "part"), ("BadBook", "part"), ("BadRow", "part"), ("BadChange", "value"), ("BadRule", "part"), ("BadAsk", "part"), ("Clashing", "part"), ("BadText", "line"), ("BadText", "word"), ("NoHost", "place"), ("TooMany", "what"), ("TooMany", "most")]
/-- the ground with these classes -/
def Gq (K : PySem.W.Frag) (mg : Str → Option Value) (tabs : List (Addr × Str)) (p c : Addr) (ns : List Int) : Gr := { K := K, mg := mg, p := p, c := c, ns := ns, cls := CLS, exs := EXS, fld := FLD, tabs := tabs }
end Sp

set_option maxHeartbeats 3900000
namespace Rd
open PySem
open PySem.Spec
open PyProof.Rows
open L2
open Dl
open Sp
/-- the names of the module -/
structure Mo (g : Gr) (mg : Str → Option Value) : Prop where
  i_MOST_COPIES : ∃ t, mg "MOST_COPIES" = some (.int 5 t)
  i_MOST_CHANGES : ∃ t, mg "MOST_CHANGES" = some (.int 5 t)
  b_ValueError : mg "ValueError" = none
  b_abs : mg "abs" = none
  b_bool : mg "bool" = none
  b_int : mg "int" = none
  b_isinstance : mg "isinstance" = none
  b_len : mg "len" = none
  b_list : mg "list" = none
  b_max : mg "max" = none
  b_min : mg "min" = none
  b_range : mg "range" = none
  b_repr : mg "repr" = none
  b_super : mg "super" = none
  b_tuple : mg "tuple" = none
  c_TrueError : ∃ a, g.mg "TrueError" = some (.ref a)
  c_PartError : ∃ a, g.mg "PartError" = some (.ref a)
  c_ValueKept : ∃ a, g.mg "ValueKept" = some (.ref a)
  c_BadName : ∃ a, g.mg "BadName" = some (.ref a)
  c_BadNumber : ∃ a, g.mg "BadNumber" = some (.ref a)
  c_BadBook : ∃ a, g.mg "BadBook" = some (.ref a)
  c_BadRow : ∃ a, g.mg "BadRow" = some (.ref a)
  c_BadChange : ∃ a, g.mg "BadChange" = some (.ref a)
  c_BadRule : ∃ a, g.mg "BadRule" = some (.ref a)
  c_BadAsk : ∃ a, g.mg "BadAsk" = some (.ref a)
  c_Clashing : ∃ a, g.mg "Clashing" = some (.ref a)
  c_BadText : ∃ a, g.mg "BadText" = some (.ref a)
  c_NoHost : ∃ a, g.mg "NoHost" = some (.ref a)
  c_TooMany : ∃ a, g.mg "TooMany" = some (.ref a)
section
variable {gb : Bool} {P : Program} {w : World} {K : PySem.W.Frag} {mg : Str → Option Value} {base : Heap} {f : Addr} {cdv : Value} {A : Around} {outer : List Env} {s : Shared} {H : Hp} {E : XK} {g : Gr} {en : En}
abbrev N_is_integer : List Str := ["value"]
theorem sc_is_integer : FnScope N_is_integer ["value"] (defScope Hd.s_is_integer) := ⟨rfl, rfl, rfl, by decide +kernel, rfl, by decide +kernel, by decide +kernel⟩
def t_is_integer (g : Gr) : DB := dsRet (dAnd (dCB (isiD g) (dCons (dVar 0) (dCons (dC (.ty "int")) (dNil)))) (dNot (dCB (isiD g) (dCons (dVar 0) (dCons (dC (.ty "bool")) (dNil))))))
theorem r_is_integer (B : Cn gb (DX P w K mg base N_is_integer "is_integer" (defScope Hd.s_is_integer) f cdv A outer s H E) g (WE E) 0) (M : Mo g mg) : PSs (DX P w K mg base N_is_integer "is_integer" (defScope Hd.s_is_integer) f cdv A outer s H E) (defBody Hd.s_is_integer) (ls g en (WE E) (t_is_integer g)) := by
  have hp : PassesOwn (model P w) (DX P w K mg base N_is_integer "is_integer" (defScope Hd.s_is_integer) f cdv A outer s H E).A (DX P w K mg base N_is_integer "is_integer" (defScope Hd.s_is_integer) f cdv A outer s H E).env (DX P w K mg base N_is_integer "is_integer" (defScope Hd.s_is_integer) f cdv A outer s H E).xe := passes_of rfl
  exact dss_one (ds_ret (de_and (de_cb (call_isiD B.o) M.b_isinstance Boot.«isinstance» (da_cons (de_var 0) (da_cons (de_ty M.b_int Boot.«int») (da_nil)))) (de_one (de_not (de_cb (call_isiD B.o) M.b_isinstance Boot.«isinstance» (da_cons (de_var 0) (da_cons (de_ty M.b_bool Boot.«bool») (da_nil))))))))
abbrev N_is_within : List Str := ["value", "least", "most"]
theorem sc_is_within : FnScope N_is_within ["value", "least", "most"] (defScope Hd.s_is_within) := ⟨rfl, rfl, rfl, by decide +kernel, rfl, by decide +kernel, by decide +kernel⟩
def t_is_within (g : Gr) : DB := dsRet (dAnd (dCall sp_is_integer (dCons (dVar 0) (dNil))) (dChain leO leO (dVar 1) (dVar 0) (dVar 2)))
theorem r_is_within (B : Cn gb (DX P w K mg base N_is_within "is_within" (defScope Hd.s_is_within) f cdv A outer s H E) g (WE E) 1) (M : Mo g mg) {f_is_integer : Addr} {d_is_integer : FuncData} (h_is_integer : Fd false P w K mg base g 1 "is_integer" f_is_integer d_is_integer ["value"] sp_is_integer) : PSs (DX P w K mg base N_is_within "is_within" (defScope Hd.s_is_within) f cdv A outer s H E) (defBody Hd.s_is_within) (ls g en (WE E) (t_is_within g)) := by
  have hp : PassesOwn (model P w) (DX P w K mg base N_is_within "is_within" (defScope Hd.s_is_within) f cdv A outer s H E).A (DX P w K mg base N_is_within "is_within" (defScope Hd.s_is_within) f cdv A outer s H E).env (DX P w K mg base N_is_within "is_within" (defScope Hd.s_is_within) f cdv A outer s H E).xe := passes_of rfl
  exact dss_one (ds_ret (de_and (de_fn B h_is_integer (da_cons (de_var 0) (da_nil))) (de_one (de_chain (op_leO) (op_leO) (de_var 1) (de_var 0) (de_var 2)))))
abbrev N_need_within : List Str := ["part", "value", "least", "most"]
theorem sc_need_within : FnScope N_need_within ["part", "value", "least", "most"] (defScope Hd.s_need_within) := ⟨rfl, rfl, rfl, by decide +kernel, rfl, by decide +kernel, by decide +kernel⟩
def t_need_within (g : Gr) : DB := dsIf (dtNot (dTest (dCall sp_is_within (dCons (dVar 1) (dCons (dVar 2) (dCons (dVar 3) (dNil))))))) (dsRaise g "BadNumber" F_BadNumber (dCons (dVar 0) (dNil))) (dsNext)
theorem r_need_within (B : Cn gb (DX P w K mg base N_need_within "need_within" (defScope Hd.s_need_within) f cdv A outer s H E) g (WE E) 2) (M : Mo g mg) {f_is_within : Addr} {d_is_within : FuncData} (h_is_within : Fd false P w K mg base g 2 "is_within" f_is_within d_is_within ["value", "least", "most"] sp_is_within) (z_BadNumber : Rz P w K mg base 1 "BadNumber" F_BadNumber) : PSs (DX P w K mg base N_need_within "need_within" (defScope Hd.s_need_within) f cdv A outer s H E) (defBody Hd.s_need_within) (ls g en (WE E) (t_need_within g)) := by
  have hp : PassesOwn (model P w) (DX P w K mg base N_need_within "need_within" (defScope Hd.s_need_within) f cdv A outer s H E).A (DX P w K mg base N_need_within "need_within" (defScope Hd.s_need_within) f cdv A outer s H E).env (DX P w K mg base N_need_within "need_within" (defScope Hd.s_need_within) f cdv A outer s H E).xe := passes_of rfl
  exact dss_one (ds_if (dt_not (dt_val (de_fn B h_is_within (da_cons (de_var 1) (da_cons (de_var 2) (da_cons (de_var 3) (da_nil))))))) (dss_one (ds_raise B z_BadNumber (da_cons (de_var 0) (da_nil)))) (dss_nil))
abbrev N_need_plain : List Str := ["copies", "read", "keep"]
theorem sc_need_plain : FnScope N_need_plain ["copies", "read", "keep"] (defScope Hd.s_need_plain) := ⟨rfl, rfl, rfl, by decide +kernel, rfl, by decide +kernel, by decide +kernel⟩
def t_need_plain (g : Gr) : DB := dsSeq (dsDrop (dCall sp_need_within (dCons (dC (.str "copies")) (dCons (dVar 0) (dCons (dC (.int 1)) (dCons (dC (.int 5)) (dNil))))))) (dsSeq (dsDrop (dCall sp_need_within (dCons (dC (.str "read")) (dCons (dVar 1) (dCons (dC (.int 1)) (dCons (dVar 0) (dNil))))))) (dsDrop (dCall sp_need_within (dCons (dC (.str "keep")) (dCons (dVar 2) (dCons (dC (.int 1)) (dCons (dVar 0) (dNil))))))))
theorem r_need_plain (B : Cn gb (DX P w K mg base N_need_plain "need_plain" (defScope Hd.s_need_plain) f cdv A outer s H E) g (WE E) 3) (M : Mo g mg) {f_need_within : Addr} {d_need_within : FuncData} (h_need_within : Fd false P w K mg base g 3 "need_within" f_need_within d_need_within ["part", "value", "least", "most"] sp_need_within) : PSs (DX P w K mg base N_need_plain "need_plain" (defScope Hd.s_need_plain) f cdv A outer s H E) (defBody Hd.s_need_plain) (ls g en (WE E) (t_need_plain g)) := by
  have hp : PassesOwn (model P w) (DX P w K mg base N_need_plain "need_plain" (defScope Hd.s_need_plain) f cdv A outer s H E).A (DX P w K mg base N_need_plain "need_plain" (defScope Hd.s_need_plain) f cdv A outer s H E).env (DX P w K mg base N_need_plain "need_plain" (defScope Hd.s_need_plain) f cdv A outer s H E).xe := passes_of rfl
  exact dss_cons (ds_expr (de_fn B h_need_within (da_cons (de_str) (da_cons (de_var 0) (da_cons (de_int) (da_cons (de_gint M.i_MOST_COPIES) (da_nil))))))) (dss_cons (ds_expr (de_fn B h_need_within (da_cons (de_str) (da_cons (de_var 1) (da_cons (de_int) (da_cons (de_var 0) (da_nil))))))) (dss_one (ds_expr (de_fn B h_need_within (da_cons (de_str) (da_cons (de_var 2) (da_cons (de_int) (da_cons (de_var 0) (da_nil)))))))))
abbrev N_together : List Str := ["copies", "others", "changes"]
theorem sc_together : FnScope N_together ["copies", "others", "changes"] (defScope Hd.s_together) := ⟨rfl, rfl, rfl, by decide +kernel, rfl, by decide +kernel, by decide +kernel⟩
def t_together (g : Gr) : DB := dsRet (dOp addD (dCB maxD2 (dCons (dVar 0) (dCons (dVar 1) (dNil)))) (dCB minD2 (dCons (dVar 0) (dCons (dVar 1) (dCons (dVar 2) (dNil))))))
theorem r_together (B : Cn gb (DX P w K mg base N_together "together" (defScope Hd.s_together) f cdv A outer s H E) g (WE E) 0) (M : Mo g mg) : PSs (DX P w K mg base N_together "together" (defScope Hd.s_together) f cdv A outer s H E) (defBody Hd.s_together) (ls g en (WE E) (t_together g)) := by
  have hp : PassesOwn (model P w) (DX P w K mg base N_together "together" (defScope Hd.s_together) f cdv A outer s H E).A (DX P w K mg base N_together "together" (defScope Hd.s_together) f cdv A outer s H E).env (DX P w K mg base N_together "together" (defScope Hd.s_together) f cdv A outer s H E).xe := passes_of rfl
  exact dss_one (ds_ret (de_op (op_addD B.o) (de_cb (call_maxD B.o) M.b_max Boot.«max» (da_cons (de_var 0) (da_cons (de_var 1) (da_nil)))) (de_cb (call_minD B.o) M.b_min Boot.«min» (da_cons (de_var 0) (da_cons (de_var 1) (da_cons (de_var 2) (da_nil)))))))
abbrev N_plain_bears : List Str := ["one", "other", "changes", "part", "value", "least"]
theorem sc_plain_bears : FnScope N_plain_bears ["one", "other", "changes"] (defScope Hd.s_plain_bears) := ⟨rfl, rfl, rfl, by decide +kernel, rfl, by decide +kernel, by decide +kernel⟩
def t_plain_bears_1 (g : Gr) : DB := dsSeq (dsIf (dtOr (dtNot (dTest (dIsiT g (dVar 4) (dCons (dC (.ty "list")) (dCons (dC (.ty "tuple")) (dNil)))))) (dTest (dOp neO (dCB lenD (dCons (dVar 4) (dNil))) (dC (.int 4))))) (dsRaise g "BadNumber" F_BadNumber (dCons (dVar 3) (dNil))) (dsNext)) (dsSeq (dsDrop (dCall sp_need_plain (dCons (dOp ixD (dVar 4) (dC (.int 0))) (dCons (dOp ixD (dVar 4) (dC (.int 1))) (dCons (dOp ixD (dVar 4) (dC (.int 2))) (dNil)))))) (dsDrop (dCall sp_need_within (dCons (dC (.str "liars")) (dCons (dOp ixD (dVar 4) (dC (.int 3))) (dCons (dC (.int 0)) (dCons (dC (.int 5)) (dNil))))))))
def t_plain_bears (g : Gr) : DB := dsSeq (dsFor (dItems (dTup (dCons (dTup (dCons (dC (.str "one")) (dCons (dVar 0) (dNil)))) (dCons (dTup (dCons (dC (.str "other")) (dCons (dVar 1) (dNil)))) (dNil))))) (gsTup 2 (gsCons (gVar 3) (gsCons (gVar 4) (gsNil)))) (t_plain_bears_1 g)) (dsSeq (dsDrop (dCall sp_need_within (dCons (dC (.str "changes")) (dCons (dVar 2) (dCons (dC (.int 0)) (dCons (dC (.int 5)) (dNil))))))) (dsSeq (dsSet 5 (dCB minD2 (dCons (dOp addD (dOp ixD (dVar 0) (dC (.int 2))) (dOp ixD (dVar 1) (dC (.int 1)))) (dCons (dOp addD (dOp ixD (dVar 0) (dC (.int 1))) (dOp ixD (dVar 1) (dC (.int 2)))) (dNil))))) (dsRet (dOp gtO (dVar 5) (dOp addD (dCall sp_together (dCons (dOp ixD (dVar 0) (dC (.int 0))) (dCons (dOp ixD (dVar 1) (dC (.int 0))) (dCons (dVar 2) (dNil))))) (dCB minD2 (dCons (dOp ixD (dVar 0) (dC (.int 3))) (dCons (dOp ixD (dVar 1) (dC (.int 3))) (dNil)))))))))
theorem r_plain_bears (B : Cn gb (DX P w K mg base N_plain_bears "plain_bears" (defScope Hd.s_plain_bears) f cdv A outer s H E) g (WE E) 4) (M : Mo g mg) {f_need_plain : Addr} {d_need_plain : FuncData} (h_need_plain : Fd false P w K mg base g 4 "need_plain" f_need_plain d_need_plain ["copies", "read", "keep"] sp_need_plain) {f_need_within : Addr} {d_need_within : FuncData} (h_need_within : Fd false P w K mg base g 3 "need_within" f_need_within d_need_within ["part", "value", "least", "most"] sp_need_within) {f_together : Addr} {d_together : FuncData} (h_together : Fd false P w K mg base g 1 "together" f_together d_together ["copies", "others", "changes"] sp_together) (z_BadNumber : Rz P w K mg base 1 "BadNumber" F_BadNumber) : PSs (DX P w K mg base N_plain_bears "plain_bears" (defScope Hd.s_plain_bears) f cdv A outer s H E) (defBody Hd.s_plain_bears) (ls g en (WE E) (t_plain_bears g)) := by
  have hp : PassesOwn (model P w) (DX P w K mg base N_plain_bears "plain_bears" (defScope Hd.s_plain_bears) f cdv A outer s H E).A (DX P w K mg base N_plain_bears "plain_bears" (defScope Hd.s_plain_bears) f cdv A outer s H E).env (DX P w K mg base N_plain_bears "plain_bears" (defScope Hd.s_plain_bears) f cdv A outer s H E).xe := passes_of rfl
  exact dss_cons (ds_for B.o (di_val B.o (de_tup (da_cons (de_tup (da_cons (de_str) (da_cons (de_var 0) (da_nil)))) (da_cons (de_tup (da_cons (de_str) (da_cons (de_var 1) (da_nil)))) (da_nil))))) (dg_tup B.o (dgs_cons (dg_var (i := 3) B.nd) (dgs_cons (dg_var (i := 4) B.nd) (dgs_nil)))) (dss_cons (ds_if (dt_w (dt_or (dt_not (dt_val (de_isiT B.o M.b_isinstance (de_var 4) (da_cons (de_ty M.b_list Boot.«list») (da_cons (de_ty M.b_tuple Boot.«tuple») (da_nil)))))) (dt_or1 (dt_cmp (op_neO B.o) (de_cb (call_lenD B.o) M.b_len Boot.«len» (da_cons (de_var 4) (da_nil))) (de_int) (nomark _))))) (dss_one (ds_raise B z_BadNumber (da_cons (de_var 3) (da_nil)))) (dss_nil)) (dss_cons (ds_expr (de_fn B h_need_plain (da_cons (de_ix B.o (de_var 4) (de_int)) (da_cons (de_ix B.o (de_var 4) (de_int)) (da_cons (de_ix B.o (de_var 4) (de_int)) (da_nil)))))) (dss_one (ds_expr (de_fn B h_need_within (da_cons (de_str) (da_cons (de_ix B.o (de_var 4) (de_int)) (da_cons (de_int) (da_cons (de_gint M.i_MOST_COPIES) (da_nil)))))))))) hp) (dss_cons (ds_expr (de_fn B h_need_within (da_cons (de_str) (da_cons (de_var 2) (da_cons (de_int) (da_cons (de_gint M.i_MOST_CHANGES) (da_nil))))))) (dss_cons (ds_set (i := 5) B.nd (de_cb (call_minD B.o) M.b_min Boot.«min» (da_cons (de_op (op_addD B.o) (de_ix B.o (de_var 0) (de_int)) (de_ix B.o (de_var 1) (de_int))) (da_cons (de_op (op_addD B.o) (de_ix B.o (de_var 0) (de_int)) (de_ix B.o (de_var 1) (de_int))) (da_nil))))) (dss_one (ds_ret (de_cmp (op_gtO) (de_var 5) (de_op (op_addD B.o) (de_fn B h_together (da_cons (de_ix B.o (de_var 0) (de_int)) (da_cons (de_ix B.o (de_var 1) (de_int)) (da_cons (de_var 2) (da_nil))))) (de_cb (call_minD B.o) M.b_min Boot.«min» (da_cons (de_ix B.o (de_var 0) (de_int)) (da_cons (de_ix B.o (de_var 1) (de_int)) (da_nil))))) (nomark _))))))
abbrev N_plain_ends : List Str := ["copies", "read", "keep", "liars", "falls"]
theorem sc_plain_ends : FnScope N_plain_ends ["copies", "read", "keep", "liars", "falls"] (defScope Hd.s_plain_ends) := ⟨rfl, rfl, rfl, by decide +kernel, rfl, by decide +kernel, by decide +kernel⟩
def t_plain_ends (g : Gr) : DB := dsSeq (dsDrop (dCall sp_need_plain (dCons (dVar 0) (dCons (dVar 1) (dCons (dVar 2) (dNil)))))) (dsSeq (dsDrop (dCall sp_need_within (dCons (dC (.str "liars")) (dCons (dVar 3) (dCons (dC (.int 0)) (dCons (dC (.int 5)) (dNil))))))) (dsSeq (dsDrop (dCall sp_need_within (dCons (dC (.str "falls")) (dCons (dVar 4) (dCons (dC (.int 0)) (dCons (dC (.int 5)) (dNil))))))) (dsRet (dAnd (dOp geO (dOp subD (dVar 0) (dVar 4)) (dCB maxD2 (dCons (dVar 1) (dCons (dVar 2) (dNil))))) (dOp ltO (dOp addD (dVar 4) (dVar 3)) (dCB minD2 (dCons (dVar 1) (dCons (dVar 2) (dNil)))))))))
theorem r_plain_ends (B : Cn gb (DX P w K mg base N_plain_ends "plain_ends" (defScope Hd.s_plain_ends) f cdv A outer s H E) g (WE E) 4) (M : Mo g mg) {f_need_plain : Addr} {d_need_plain : FuncData} (h_need_plain : Fd false P w K mg base g 4 "need_plain" f_need_plain d_need_plain ["copies", "read", "keep"] sp_need_plain) {f_need_within : Addr} {d_need_within : FuncData} (h_need_within : Fd false P w K mg base g 3 "need_within" f_need_within d_need_within ["part", "value", "least", "most"] sp_need_within) : PSs (DX P w K mg base N_plain_ends "plain_ends" (defScope Hd.s_plain_ends) f cdv A outer s H E) (defBody Hd.s_plain_ends) (ls g en (WE E) (t_plain_ends g)) := by
  have hp : PassesOwn (model P w) (DX P w K mg base N_plain_ends "plain_ends" (defScope Hd.s_plain_ends) f cdv A outer s H E).A (DX P w K mg base N_plain_ends "plain_ends" (defScope Hd.s_plain_ends) f cdv A outer s H E).env (DX P w K mg base N_plain_ends "plain_ends" (defScope Hd.s_plain_ends) f cdv A outer s H E).xe := passes_of rfl
  exact dss_cons (ds_expr (de_fn B h_need_plain (da_cons (de_var 0) (da_cons (de_var 1) (da_cons (de_var 2) (da_nil)))))) (dss_cons (ds_expr (de_fn B h_need_within (da_cons (de_str) (da_cons (de_var 3) (da_cons (de_int) (da_cons (de_gint M.i_MOST_COPIES) (da_nil))))))) (dss_cons (ds_expr (de_fn B h_need_within (da_cons (de_str) (da_cons (de_var 4) (da_cons (de_int) (da_cons (de_gint M.i_MOST_COPIES) (da_nil))))))) (dss_one (ds_ret (de_and (de_cmp (op_geO) (de_op (op_subD) (de_var 0) (de_var 4)) (de_cb (call_maxD B.o) M.b_max Boot.«max» (da_cons (de_var 1) (da_cons (de_var 2) (da_nil)))) (nomark _)) (de_one (de_cmp (op_ltO) (de_op (op_addD B.o) (de_var 4) (de_var 3)) (de_cb (call_minD B.o) M.b_min Boot.«min» (da_cons (de_var 1) (da_cons (de_var 2) (da_nil)))) (nomark _))))))))
abbrev N_plain_pairs : List Str := ["copies", "liars", "falls", "changes", "found", "read", "keep", "its"]
theorem sc_plain_pairs : FnScope N_plain_pairs ["copies", "liars", "falls", "changes"] (defScope Hd.s_plain_pairs) := ⟨rfl, rfl, rfl, by decide +kernel, rfl, by decide +kernel, by decide +kernel⟩
def t_plain_pairs_1 (g : Gr) : DB := dsSeq (dsSet 7 (dTup (dCons (dVar 0) (dCons (dVar 5) (dCons (dVar 6) (dCons (dVar 1) (dNil))))))) (dsIf (dtAnd (dTest (dCall sp_plain_ends (dCons (dVar 0) (dCons (dVar 5) (dCons (dVar 6) (dCons (dVar 1) (dCons (dVar 2) (dNil)))))))) (dTest (dCall sp_plain_bears (dCons (dVar 7) (dCons (dVar 7) (dCons (dVar 3) (dNil))))))) (dsDrop (dApp 4 (dTup (dCons (dVar 5) (dCons (dVar 6) (dNil)))))) (dsNext))
def t_plain_pairs_2 (g : Gr) : DB := dsFor (dRng rangeD2 (dCons (dC (.int 1)) (dCons (dOp addD (dVar 0) (dC (.int 1))) (dNil)))) (gVar 6) (t_plain_pairs_1 g)
def t_plain_pairs (g : Gr) : DB := dsSeq (dsDrop (dCall sp_need_within (dCons (dC (.str "copies")) (dCons (dVar 0) (dCons (dC (.int 1)) (dCons (dC (.int 5)) (dNil))))))) (dsSeq (dsDrop (dCall sp_need_within (dCons (dC (.str "liars")) (dCons (dVar 1) (dCons (dC (.int 0)) (dCons (dC (.int 5)) (dNil))))))) (dsSeq (dsDrop (dCall sp_need_within (dCons (dC (.str "falls")) (dCons (dVar 2) (dCons (dC (.int 0)) (dCons (dC (.int 5)) (dNil))))))) (dsSeq (dsDrop (dCall sp_need_within (dCons (dC (.str "changes")) (dCons (dVar 3) (dCons (dC (.int 0)) (dCons (dC (.int 5)) (dNil))))))) (dsSeq (dsSetL 4 (dSz (dNil))) (dsSeq (dsFor (dRng rangeD2 (dCons (dC (.int 1)) (dCons (dOp addD (dVar 0) (dC (.int 1))) (dNil)))) (gVar 5) (t_plain_pairs_2 g)) (dsRet (dCB tupD (dCons (dVar 4) (dNil)))))))))
theorem r_plain_pairs (B : Cn gb (DX P w K mg base N_plain_pairs "plain_pairs" (defScope Hd.s_plain_pairs) f cdv A outer s H E) g (WE E) 5) (M : Mo g mg) {f_need_within : Addr} {d_need_within : FuncData} (h_need_within : Fd false P w K mg base g 3 "need_within" f_need_within d_need_within ["part", "value", "least", "most"] sp_need_within) {f_plain_ends : Addr} {d_plain_ends : FuncData} (h_plain_ends : Fd false P w K mg base g 5 "plain_ends" f_plain_ends d_plain_ends ["copies", "read", "keep", "liars", "falls"] sp_plain_ends) {f_plain_bears : Addr} {d_plain_bears : FuncData} (h_plain_bears : Fd false P w K mg base g 5 "plain_bears" f_plain_bears d_plain_bears ["one", "other", "changes"] sp_plain_bears) : PSs (DX P w K mg base N_plain_pairs "plain_pairs" (defScope Hd.s_plain_pairs) f cdv A outer s H E) (defBody Hd.s_plain_pairs) (ls g en (WE E) (t_plain_pairs g)) := by
  have hp : PassesOwn (model P w) (DX P w K mg base N_plain_pairs "plain_pairs" (defScope Hd.s_plain_pairs) f cdv A outer s H E).A (DX P w K mg base N_plain_pairs "plain_pairs" (defScope Hd.s_plain_pairs) f cdv A outer s H E).env (DX P w K mg base N_plain_pairs "plain_pairs" (defScope Hd.s_plain_pairs) f cdv A outer s H E).xe := passes_of rfl
  exact dss_cons (ds_expr (de_fn B h_need_within (da_cons (de_str) (da_cons (de_var 0) (da_cons (de_int) (da_cons (de_gint M.i_MOST_COPIES) (da_nil))))))) (dss_cons (ds_expr (de_fn B h_need_within (da_cons (de_str) (da_cons (de_var 1) (da_cons (de_int) (da_cons (de_gint M.i_MOST_COPIES) (da_nil))))))) (dss_cons (ds_expr (de_fn B h_need_within (da_cons (de_str) (da_cons (de_var 2) (da_cons (de_int) (da_cons (de_gint M.i_MOST_COPIES) (da_nil))))))) (dss_cons (ds_expr (de_fn B h_need_within (da_cons (de_str) (da_cons (de_var 3) (da_cons (de_int) (da_cons (de_gint M.i_MOST_CHANGES) (da_nil))))))) (dss_cons (ds_setL (i := 4) B.nd (dl_lst (da_nil))) (dss_cons (ds_for B.o (di_rng2 rfl M.b_range (da_cons (de_int) (da_cons (de_op (op_addD B.o) (de_var 0) (de_int)) (da_nil)))) (dg_var (i := 5) B.nd) (dss_one (ds_for B.o (di_rng2 rfl M.b_range (da_cons (de_int) (da_cons (de_op (op_addD B.o) (de_var 0) (de_int)) (da_nil)))) (dg_var (i := 6) B.nd) (dss_cons (ds_set (i := 7) B.nd (de_tup (da_cons (de_var 0) (da_cons (de_var 5) (da_cons (de_var 6) (da_cons (de_var 1) (da_nil))))))) (dss_one (ds_if (dt_w (dt_and (dt_val (de_fn B h_plain_ends (da_cons (de_var 0) (da_cons (de_var 5) (da_cons (de_var 6) (da_cons (de_var 1) (da_cons (de_var 2) (da_nil)))))))) (dt_and1 (dt_val (de_fn B h_plain_bears (da_cons (de_var 7) (da_cons (de_var 7) (da_cons (de_var 3) (da_nil))))))))) (dss_one (ds_expr (de_app (i := 4) B.o (de_tup (da_cons (de_var 5) (da_cons (de_var 6) (da_nil))))))) (dss_nil)))) hp)) hp) (dss_one (ds_ret (de_cty (call_tupD B.o) M.b_tuple Boot.«tuple» (da_cons (de_var 4) (da_nil))))))))))
abbrev N_least_plain : List Str := ["liars", "falls", "changes", "copies"]
theorem sc_least_plain : FnScope N_least_plain ["liars", "falls", "changes"] (defScope Hd.s_least_plain) := ⟨rfl, rfl, rfl, by decide +kernel, rfl, by decide +kernel, by decide +kernel⟩
def t_least_plain (g : Gr) : DB := dsSeq (dsDrop (dCall sp_need_within (dCons (dC (.str "liars")) (dCons (dVar 0) (dCons (dC (.int 0)) (dCons (dC (.int 5)) (dNil))))))) (dsSeq (dsDrop (dCall sp_need_within (dCons (dC (.str "falls")) (dCons (dVar 1) (dCons (dC (.int 0)) (dCons (dC (.int 5)) (dNil))))))) (dsSeq (dsDrop (dCall sp_need_within (dCons (dC (.str "changes")) (dCons (dVar 2) (dCons (dC (.int 0)) (dCons (dC (.int 5)) (dNil))))))) (dsSeq (dsSet 3 (dOp addD (dOp addD (dOp addD (dOp mulD (dC (.int 2)) (dVar 1)) (dVar 2)) (dVar 0)) (dC (.int 1)))) (dsSeq (dsIf (dTest (dOp gtO (dVar 3) (dC (.int 5)))) (dsRaise g "Clashing" F_Clashing (dCons (dC (.str "copies")) (dNil))) (dsNext)) (dsRet (dTup (dCons (dVar 3) (dCons (dOp subD (dVar 3) (dVar 1)) (dCons (dOp subD (dVar 3) (dVar 1)) (dNil))))))))))
theorem r_least_plain (B : Cn gb (DX P w K mg base N_least_plain "least_plain" (defScope Hd.s_least_plain) f cdv A outer s H E) g (WE E) 3) (M : Mo g mg) {f_need_within : Addr} {d_need_within : FuncData} (h_need_within : Fd false P w K mg base g 3 "need_within" f_need_within d_need_within ["part", "value", "least", "most"] sp_need_within) (z_Clashing : Rz P w K mg base 1 "Clashing" F_Clashing) : PSs (DX P w K mg base N_least_plain "least_plain" (defScope Hd.s_least_plain) f cdv A outer s H E) (defBody Hd.s_least_plain) (ls g en (WE E) (t_least_plain g)) := by
  have hp : PassesOwn (model P w) (DX P w K mg base N_least_plain "least_plain" (defScope Hd.s_least_plain) f cdv A outer s H E).A (DX P w K mg base N_least_plain "least_plain" (defScope Hd.s_least_plain) f cdv A outer s H E).env (DX P w K mg base N_least_plain "least_plain" (defScope Hd.s_least_plain) f cdv A outer s H E).xe := passes_of rfl
  exact dss_cons (ds_expr (de_fn B h_need_within (da_cons (de_str) (da_cons (de_var 0) (da_cons (de_int) (da_cons (de_gint M.i_MOST_COPIES) (da_nil))))))) (dss_cons (ds_expr (de_fn B h_need_within (da_cons (de_str) (da_cons (de_var 1) (da_cons (de_int) (da_cons (de_gint M.i_MOST_COPIES) (da_nil))))))) (dss_cons (ds_expr (de_fn B h_need_within (da_cons (de_str) (da_cons (de_var 2) (da_cons (de_int) (da_cons (de_gint M.i_MOST_CHANGES) (da_nil))))))) (dss_cons (ds_set (i := 3) B.nd (de_op (op_addD B.o) (de_op (op_addD B.o) (de_op (op_addD B.o) (de_op (op_mulD B.o) (de_int) (de_var 1)) (de_var 2)) (de_var 0)) (de_int))) (dss_cons (ds_if (dt_cmp (op_gtO) (de_var 3) (de_gint M.i_MOST_COPIES) (nomark _)) (dss_one (ds_raise B z_Clashing (da_cons (de_str) (da_nil)))) (dss_nil)) (dss_one (ds_ret (de_tup (da_cons (de_var 3) (da_cons (de_op (op_subD) (de_var 3) (de_var 1)) (da_cons (de_op (op_subD) (de_var 3) (de_var 1)) (da_nil)))))))))))
abbrev N__law_pick : List Str := ["pen", "some"]
theorem sc__law_pick : FnScope N__law_pick ["pen", "some"] (defScope Hd.s__law_pick) := ⟨rfl, rfl, rfl, by decide +kernel, rfl, by decide +kernel, by decide +kernel⟩
def t__law_pick (g : Gr) : DB := dsRet (dOp ixD (dVar 1) (dCall sp__law_draw (dCons (dVar 0) (dCons (dCB lenD (dCons (dVar 1) (dNil))) (dNil)))))
theorem r__law_pick (B : Cn gb (DX P w K mg base N__law_pick "_law_pick" (defScope Hd.s__law_pick) f cdv A outer s H E) g (WE E) 1) (M : Mo g mg) {f__law_draw : Addr} {d__law_draw : FuncData} (h__law_draw : Fd false P w K mg base g 1 "_law_draw" f__law_draw d__law_draw ["pen", "many"] sp__law_draw) : PSs (DX P w K mg base N__law_pick "_law_pick" (defScope Hd.s__law_pick) f cdv A outer s H E) (defBody Hd.s__law_pick) (ls g en (WE E) (t__law_pick g)) := by
  have hp : PassesOwn (model P w) (DX P w K mg base N__law_pick "_law_pick" (defScope Hd.s__law_pick) f cdv A outer s H E).A (DX P w K mg base N__law_pick "_law_pick" (defScope Hd.s__law_pick) f cdv A outer s H E).env (DX P w K mg base N__law_pick "_law_pick" (defScope Hd.s__law_pick) f cdv A outer s H E).xe := passes_of rfl
  exact dss_one (ds_ret (de_ix B.o (de_var 1) (de_fn B h__law_draw (da_cons (de_var 0) (da_cons (de_cb (call_lenD B.o) M.b_len Boot.«len» (da_cons (de_var 1) (da_nil))) (da_nil))))))
abbrev N__law_heard : List Str := ["ask", "caught", "error", "kinds"]
theorem sc__law_heard : FnScope N__law_heard ["ask"] (defScope Hd.s__law_heard) := ⟨rfl, rfl, rfl, by decide +kernel, rfl, by decide +kernel, by decide +kernel⟩
def t__law_heard (g : Gr) (f : Addr) (T : DAsk) : DB := dsSeq (dsSet 1 (dC .non)) (dsSeq (dsTry g "TrueError" 2 1 (dsDrop (dAsk f T))) (dsSeq (dsIf (dTest (dOp isO (dVar 1) (dC .non))) (dsRet (dC .non)) (dsNext)) (dsSeq (dsIf (dTest (dCB (isiD g) (dCons (dVar 1) (dCons (dC (.cl "TooMany")) (dNil))))) (dsRet (dTup (dCons (dC (.str "many")) (dCons (dFld g "what" (dVar 1)) (dCons (dFld g "most" (dVar 1)) (dNil)))))) (dsNext)) (dsSeq (dsIf (dTest (dCB (isiD g) (dCons (dVar 1) (dCons (dC (.cl "BadText")) (dNil))))) (dsRet (dTup (dCons (dC (.str "text")) (dCons (dFld g "line" (dVar 1)) (dCons (dFld g "word" (dVar 1)) (dNil)))))) (dsNext)) (dsSeq (dsIf (dTest (dCB (isiD g) (dCons (dVar 1) (dCons (dC (.cl "BadChange")) (dNil))))) (dsRet (dTup (dCons (dC (.str "change")) (dCons (dCB reprD (dCons (dFld g "value" (dVar 1)) (dNil))) (dNil))))) (dsNext)) (dsSeq (dsIf (dTest (dCB (isiD g) (dCons (dVar 1) (dCons (dC (.cl "NoHost")) (dNil))))) (dsRet (dTup (dCons (dC (.str "host")) (dCons (dCB reprD (dCons (dFld g "place" (dVar 1)) (dNil))) (dNil))))) (dsNext)) (dsSeq (dsSet 3 (dLst (dCons (dCB (isiD g) (dCons (dVar 1) (dCons (dC (.cl "BadName")) (dNil)))) (dCons (dCB (isiD g) (dCons (dVar 1) (dCons (dC (.cl "BadNumber")) (dNil)))) (dCons (dCB (isiD g) (dCons (dVar 1) (dCons (dC (.cl "BadBook")) (dNil)))) (dCons (dCB (isiD g) (dCons (dVar 1) (dCons (dC (.cl "BadRow")) (dNil)))) (dCons (dCB (isiD g) (dCons (dVar 1) (dCons (dC (.cl "BadRule")) (dNil)))) (dNil)))))))) (dsSeq (dsSet 3 (dOp addD (dVar 3) (dLst (dCons (dCB (isiD g) (dCons (dVar 1) (dCons (dC (.cl "BadAsk")) (dNil)))) (dCons (dCB (isiD g) (dCons (dVar 1) (dCons (dC (.cl "Clashing")) (dNil)))) (dNil)))))) (dsSeq (dsIf (dTest (dOp neO (dMt countD (dVar 3) (dCons (dC (.bl true)) (dNil))) (dC (.int 1)))) (dsRet (dTup (dCons (dC (.str "other")) (dNil)))) (dsNext)) (dsRet (dTup (dCons (dOp ixD (dLst (dCons (dC (.str "name")) (dCons (dC (.str "number")) (dCons (dC (.str "book")) (dCons (dC (.str "row")) (dCons (dC (.str "rule")) (dCons (dC (.str "ask")) (dCons (dC (.str "clash")) (dNil))))))))) (dMt indexD (dVar 3) (dCons (dC (.bl true)) (dNil)))) (dCons (dFld g "part" (dVar 1)) (dNil))))))))))))))
theorem r__law_heard {ga f : Addr} {cdg : Value} {stack : List Env} {T : DAsk} (B : Cn true (cxOf C8.CX0 P w K mg base N__law_heard "_law_heard" (defScope Hd.s__law_heard) ga cdg A stack s H C8.E0).nox g NoX 0) (M : Mo g mg) (hask : ∀ (W : WX) (pn : List (Addr × Obj)) (xe : Value → Shared → Prop) (p1 p2 : Pos), Takes ((cxOf C8.CX0 P w K mg base N__law_heard "_law_heard" (defScope Hd.s__law_heard) ga cdg A stack s H C8.E0).nox.tr pn xe) W → PE ((cxOf C8.CX0 P w K mg base N__law_heard "_law_heard" (defScope Hd.s__law_heard) ga cdg A stack s H C8.E0).nox.tr pn xe) (.Call (.Name "ask" p1) [] [] p2) (le g en W (dAsk f T))) : PSs (cxOf C8.CX0 P w K mg base N__law_heard "_law_heard" (defScope Hd.s__law_heard) ga cdg A stack s H C8.E0).nox (defBody Hd.s__law_heard) (ls g en NoX (t__law_heard g f T)) := by
  exact dss_cons (ds_set (i := 1) B.nd (de_non)) (dss_cons (ds_try (i := 2) (j := 1) B.o rfl rfl rfl B.nd rfl M.c_TrueError.choose_spec (fun W pn xe tk _ => dss_one (ds_expr (hask W pn xe _ _ tk)))) (dss_cons (ds_if (dt_cmp (op_isO) (de_var 1) (de_non) (nomark _)) (dss_one (ds_ret (de_non))) (dss_nil)) (dss_cons (ds_if (dt_val (de_cb (call_isiD B.o) M.b_isinstance Boot.«isinstance» (da_cons (de_var 1) (da_cons (de_gcl B.o M.c_TooMany) (da_nil))))) (dss_one (ds_ret (de_tup (da_cons (de_str) (da_cons (de_fld B.o (de_var 1)) (da_cons (de_fld B.o (de_var 1)) (da_nil))))))) (dss_nil)) (dss_cons (ds_if (dt_val (de_cb (call_isiD B.o) M.b_isinstance Boot.«isinstance» (da_cons (de_var 1) (da_cons (de_gcl B.o M.c_BadText) (da_nil))))) (dss_one (ds_ret (de_tup (da_cons (de_str) (da_cons (de_fld B.o (de_var 1)) (da_cons (de_fld B.o (de_var 1)) (da_nil))))))) (dss_nil)) (dss_cons (ds_if (dt_val (de_cb (call_isiD B.o) M.b_isinstance Boot.«isinstance» (da_cons (de_var 1) (da_cons (de_gcl B.o M.c_BadChange) (da_nil))))) (dss_one (ds_ret (de_tup (da_cons (de_str) (da_cons (de_cb (call_reprD B.o (B.gd rfl)) M.b_repr Boot.«repr» (da_cons (de_fld B.o (de_var 1)) (da_nil))) (da_nil)))))) (dss_nil)) (dss_cons (ds_if (dt_val (de_cb (call_isiD B.o) M.b_isinstance Boot.«isinstance» (da_cons (de_var 1) (da_cons (de_gcl B.o M.c_NoHost) (da_nil))))) (dss_one (ds_ret (de_tup (da_cons (de_str) (da_cons (de_cb (call_reprD B.o (B.gd rfl)) M.b_repr Boot.«repr» (da_cons (de_fld B.o (de_var 1)) (da_nil))) (da_nil)))))) (dss_nil)) (dss_cons (ds_set (i := 3) B.nd (de_lst (da_cons (de_cb (call_isiD B.o) M.b_isinstance Boot.«isinstance» (da_cons (de_var 1) (da_cons (de_gcl B.o M.c_BadName) (da_nil)))) (da_cons (de_cb (call_isiD B.o) M.b_isinstance Boot.«isinstance» (da_cons (de_var 1) (da_cons (de_gcl B.o M.c_BadNumber) (da_nil)))) (da_cons (de_cb (call_isiD B.o) M.b_isinstance Boot.«isinstance» (da_cons (de_var 1) (da_cons (de_gcl B.o M.c_BadBook) (da_nil)))) (da_cons (de_cb (call_isiD B.o) M.b_isinstance Boot.«isinstance» (da_cons (de_var 1) (da_cons (de_gcl B.o M.c_BadRow) (da_nil)))) (da_cons (de_cb (call_isiD B.o) M.b_isinstance Boot.«isinstance» (da_cons (de_var 1) (da_cons (de_gcl B.o M.c_BadRule) (da_nil)))) (da_nil)))))))) (dss_cons (ds_set (i := 3) B.nd (de_op (op_addD B.o) (de_var 3) (de_lst (da_cons (de_cb (call_isiD B.o) M.b_isinstance Boot.«isinstance» (da_cons (de_var 1) (da_cons (de_gcl B.o M.c_BadAsk) (da_nil)))) (da_cons (de_cb (call_isiD B.o) M.b_isinstance Boot.«isinstance» (da_cons (de_var 1) (da_cons (de_gcl B.o M.c_Clashing) (da_nil)))) (da_nil)))))) (dss_cons (ds_if (dt_cmp (op_neO B.o) (de_lm PySem.F.slot_list_count PySem.F.type_list_count (mt_countD B.o) (de_var 3) (da_cons (de_bl) (da_nil))) (de_int) (nomark _)) (dss_one (ds_ret (de_tup (da_cons (de_str) (da_nil))))) (dss_nil)) (dss_one (ds_ret (de_tup (da_cons (de_ix B.o (de_lst (da_cons (de_str) (da_cons (de_str) (da_cons (de_str) (da_cons (de_str) (da_cons (de_str) (da_cons (de_str) (da_cons (de_str) (da_nil))))))))) (de_lm PySem.F.slot_list_index PySem.F.type_list_index (mt_indexDD B.o) (de_var 3) (da_cons (de_bl) (da_nil)))) (da_cons (de_fld B.o (de_var 1)) (da_nil)))))))))))))))
/-- what _law_heard promises: what its reading gives -/
def hd__law_heard (g : Gr) : DHd := fun T n PP => ∀ f, t__law_heard g f T ⟨slots N__law_heard [.fn f], n⟩ { nx := fun st => PP .non st.n, rt := fun d st => PP d st.n }
abbrev N_law : List Str := ["script", "pen", "turn", "liars", "falls", "changes", "least", "copies", "due", "read", "keep", "its"]
theorem sc_law : FnScope N_law ["script"] (defScope Hd.s_law) := ⟨rfl, rfl, rfl, by decide +kernel, rfl, by decide +kernel, by decide +kernel⟩
def t_law_1 (g : Gr) : DB := dsSeq (dsSet 11 (dTup (dCons (dVar 7) (dCons (dVar 9) (dCons (dVar 10) (dCons (dVar 3) (dNil))))))) (dsIf (dtAnd (dTest (dCall sp_plain_bears (dCons (dVar 11) (dCons (dVar 11) (dCons (dVar 5) (dNil)))))) (dTest (dCall sp_plain_ends (dCons (dVar 7) (dCons (dVar 9) (dCons (dVar 10) (dCons (dVar 3) (dCons (dVar 4) (dNil))))))))) (dsDrop (dApp 8 (dTup (dCons (dVar 9) (dCons (dVar 10) (dNil)))))) (dsNext))
def t_law_2 (g : Gr) : DB := dsFor (dRng rangeD2 (dCons (dC (.int 1)) (dCons (dOp addD (dVar 7) (dC (.int 1))) (dNil)))) (gVar 10) (t_law_1 g)
def t_law_3 (g : Gr) : DB := dsSeq (dsSetL 8 (dSz (dNil))) (dsSeq (dsFor (dRng rangeD2 (dCons (dC (.int 1)) (dCons (dOp addD (dVar 7) (dC (.int 1))) (dNil)))) (gVar 9) (t_law_2 g)) (dsSeq (dsIf (dTest (dOp neO (dCB reprD (dCons (dLst (dCons (dCall sp_plain_pairs (dCons (dVar 7) (dCons (dVar 3) (dCons (dVar 4) (dCons (dVar 5) (dNil)))))) (dCons (dCallK sp_plain_pairs 0 4 [3, 2, 1, 0] dNil (dCons (dVar 5) (dCons (dVar 4) (dCons (dVar 3) (dCons (dVar 7) (dNil)))))) (dNil)))) (dNil))) (dCB reprD (dCons (dOp mulD (dLst (dCons (dCB tupD (dCons (dVar 8) (dNil))) (dNil))) (dC (.int 2))) (dNil))))) (dsRet (dC (.bl false))) (dsNext)) (dsIf (dtAnd (dTest (dOp neO (dVar 8) (dLst (dNil)))) (dTest (dOp isO (dVar 6) (dC .non)))) (dsSet 6 (dOp addD (dTup (dCons (dVar 7) (dNil))) (dOp ixD (dVar 8) (dNeg (dC (.int 1)))))) (dsNext))))
def t_law_4 (g : Gr) : DB := dsSeq (dsAsg (dTup (dCons (dCall sp__law_pick (dCons (dVar 1) (dCons (dLst (dCons (dC (.int 0)) (dCons (dC (.int 0)) (dCons (dC (.int 1)) (dCons (dC (.int 2)) (dCons (dC (.int 5)) (dNil))))))) (dNil)))) (dCons (dCall sp__law_pick (dCons (dVar 1) (dCons (dLst (dCons (dC (.int 0)) (dCons (dC (.int 1)) (dCons (dC (.int 1)) (dCons (dC (.int 2)) (dCons (dC (.int 5)) (dNil))))))) (dNil)))) (dCons (dCall sp__law_pick (dCons (dVar 1) (dCons (dLst (dCons (dC (.int 0)) (dCons (dC (.int 0)) (dCons (dC (.int 1)) (dCons (dC (.int 2)) (dCons (dC (.int 5)) (dNil))))))) (dNil)))) (dCons (dC .non) (dNil)))))) (gsTup 4 (gsCons (gVar 3) (gsCons (gVar 4) (gsCons (gVar 5) (gsCons (gVar 6) (gsNil))))))) (dsSeq (dsFor (dRng rangeD2 (dCons (dC (.int 1)) (dCons (dC (.int 6)) (dNil)))) (gVar 7) (t_law_3 g)) (dsIf (dTest (dOp isO (dVar 6) (dC .non))) (dsIf (dTest (dOp neO (dLam (hd__law_heard g) (dCall sp_least_plain (dCons (dVar 3) (dCons (dVar 4) (dCons (dVar 5) (dNil)))))) (dTup (dCons (dC (.str "clash")) (dCons (dC (.str "copies")) (dNil)))))) (dsRet (dC (.bl false))) (dsNext)) (dsIf (dTest (dOp neO (dCB reprD (dCons (dLst (dCons (dCall sp_least_plain (dCons (dVar 3) (dCons (dVar 4) (dCons (dVar 5) (dNil))))) (dCons (dCallK sp_least_plain 0 3 [2, 1, 0] dNil (dCons (dVar 5) (dCons (dVar 4) (dCons (dVar 3) (dNil))))) (dNil)))) (dNil))) (dCB reprD (dCons (dLst (dCons (dVar 6) (dCons (dVar 6) (dNil)))) (dNil))))) (dsRet (dC (.bl false))) (dsNext))))
def t_law (g : Gr) : DB := dsSeq (dsFor (dRng rangeD1 (dCons (dC (.int 4)) (dNil))) (gVar 2) (t_law_4 g)) (dsRet (dAnd (dOp eqO (dCall sp_least_plain (dCons (dC (.int 0)) (dCons (dC (.int 0)) (dCons (dC (.int 0)) (dNil))))) (dTup (dCons (dC (.int 1)) (dCons (dC (.int 1)) (dCons (dC (.int 1)) (dNil)))))) (dOp eqO (dCall sp_plain_pairs (dCons (dC (.int 3)) (dCons (dC (.int 0)) (dCons (dC (.int 0)) (dCons (dC (.int 0)) (dNil)))))) (dTup (dCons (dTup (dCons (dC (.int 1)) (dCons (dC (.int 3)) (dNil)))) (dCons (dTup (dCons (dC (.int 2)) (dCons (dC (.int 2)) (dNil)))) (dCons (dTup (dCons (dC (.int 2)) (dCons (dC (.int 3)) (dNil)))) (dCons (dTup (dCons (dC (.int 3)) (dCons (dC (.int 1)) (dNil)))) (dCons (dTup (dCons (dC (.int 3)) (dCons (dC (.int 2)) (dNil)))) (dCons (dTup (dCons (dC (.int 3)) (dCons (dC (.int 3)) (dNil)))) (dNil)))))))))))
def law1 : Stmt := (defBody Hd.s_law).headD (.Pass ⟨0, 0, 0, 0⟩)
def lawR : List Stmt := (defBody Hd.s_law).tail
theorem r_law {cc pp : Addr} (hh : Hd true (DX P w K mg base N_law "law" (defScope Hd.s_law) f (.ref cc) A outer s H E) g "_law_heard" (hd__law_heard g)) (TB : LamX.TabB base mg cc pp) (hmT : (pp, (("law" : Str) ++ ".<locals>." ++ "<lambda>" : Str)) ∈ g.tabs) (hu : ∀ p ∈ g.tabs, p.1 = pp → p.2 = ("law" : Str) ++ ".<locals>." ++ "<lambda>") (B : Cn true (DX P w K mg base N_law "law" (defScope Hd.s_law) f (.ref cc) A outer s H E) g (WE E) 8) (M : Mo g mg) {f__law_pick : Addr} {d__law_pick : FuncData} (h__law_pick : Fd false P w K mg base g 2 "_law_pick" f__law_pick d__law_pick ["pen", "some"] sp__law_pick) {f_plain_bears : Addr} {d_plain_bears : FuncData} (h_plain_bears : Fd false P w K mg base g 5 "plain_bears" f_plain_bears d_plain_bears ["one", "other", "changes"] sp_plain_bears) {f_plain_ends : Addr} {d_plain_ends : FuncData} (h_plain_ends : Fd false P w K mg base g 5 "plain_ends" f_plain_ends d_plain_ends ["copies", "read", "keep", "liars", "falls"] sp_plain_ends) {f_plain_pairs : Addr} {d_plain_pairs : FuncData} (h_plain_pairs : Fd false P w K mg base g 6 "plain_pairs" f_plain_pairs d_plain_pairs ["copies", "liars", "falls", "changes"] sp_plain_pairs) {f_least_plain : Addr} {d_least_plain : FuncData} (h_least_plain : Fd false P w K mg base g 4 "least_plain" f_least_plain d_least_plain ["liars", "falls", "changes"] sp_least_plain) (k_plain_pairs_3210 : KwB d_plain_pairs ["copies", "liars", "falls", "changes"] 0 ["changes", "falls", "liars", "copies"] [3, 2, 1, 0]) (k_least_plain_210 : KwB d_least_plain ["liars", "falls", "changes"] 0 ["changes", "falls", "liars"] [2, 1, 0]) : PSs (DX P w K mg base N_law "law" (defScope Hd.s_law) f (.ref cc) A outer s H E) lawR (ls g en (WE E) (t_law g)) := by
  have hp : PassesOwn (model P w) (DX P w K mg base N_law "law" (defScope Hd.s_law) f (.ref cc) A outer s H E).A (DX P w K mg base N_law "law" (defScope Hd.s_law) f (.ref cc) A outer s H E).env (DX P w K mg base N_law "law" (defScope Hd.s_law) f (.ref cc) A outer s H E).xe := passes_of rfl
  exact dss_cons (ds_for B.o (di_rng1 rfl M.b_range (da_cons (de_int) (da_nil))) (dg_var (i := 2) B.nd) (dss_cons (ds_asg (de_tup (da_cons (de_fn B h__law_pick (da_cons (de_var 1) (da_cons (de_lst (da_cons (de_int) (da_cons (de_int) (da_cons (de_int) (da_cons (de_int) (da_cons (de_int) (da_nil))))))) (da_nil)))) (da_cons (de_fn B h__law_pick (da_cons (de_var 1) (da_cons (de_lst (da_cons (de_int) (da_cons (de_int) (da_cons (de_int) (da_cons (de_int) (da_cons (de_int) (da_nil))))))) (da_nil)))) (da_cons (de_fn B h__law_pick (da_cons (de_var 1) (da_cons (de_lst (da_cons (de_int) (da_cons (de_int) (da_cons (de_int) (da_cons (de_int) (da_cons (de_int) (da_nil))))))) (da_nil)))) (da_cons (de_non) (da_nil)))))) (dg_tup B.o (dgs_cons (dg_var (i := 3) B.nd) (dgs_cons (dg_var (i := 4) B.nd) (dgs_cons (dg_var (i := 5) B.nd) (dgs_cons (dg_var (i := 6) B.nd) (dgs_nil))))))) (dss_cons (ds_for B.o (di_rng2 rfl M.b_range (da_cons (de_int) (da_cons (de_int) (da_nil)))) (dg_var (i := 7) B.nd) (dss_cons (ds_setL (i := 8) B.nd (dl_lst (da_nil))) (dss_cons (ds_for B.o (di_rng2 rfl M.b_range (da_cons (de_int) (da_cons (de_op (op_addD B.o) (de_var 7) (de_int)) (da_nil)))) (dg_var (i := 9) B.nd) (dss_one (ds_for B.o (di_rng2 rfl M.b_range (da_cons (de_int) (da_cons (de_op (op_addD B.o) (de_var 7) (de_int)) (da_nil)))) (dg_var (i := 10) B.nd) (dss_cons (ds_set (i := 11) B.nd (de_tup (da_cons (de_var 7) (da_cons (de_var 9) (da_cons (de_var 10) (da_cons (de_var 3) (da_nil))))))) (dss_one (ds_if (dt_w (dt_and (dt_val (de_fn B h_plain_bears (da_cons (de_var 11) (da_cons (de_var 11) (da_cons (de_var 5) (da_nil)))))) (dt_and1 (dt_val (de_fn B h_plain_ends (da_cons (de_var 7) (da_cons (de_var 9) (da_cons (de_var 10) (da_cons (de_var 3) (da_cons (de_var 4) (da_nil))))))))))) (dss_one (ds_expr (de_app (i := 8) B.o (de_tup (da_cons (de_var 9) (da_cons (de_var 10) (da_nil))))))) (dss_nil)))) hp)) hp) (dss_cons (ds_if (dt_cmp (op_neO B.o) (de_cb (call_reprD B.o (B.gd rfl)) M.b_repr Boot.«repr» (da_cons (de_lst (da_cons (de_fn B h_plain_pairs (da_cons (de_var 7) (da_cons (de_var 3) (da_cons (de_var 4) (da_cons (de_var 5) (da_nil)))))) (da_cons (de_fnK0 (ks := ["changes", "falls", "liars", "copies"]) (is := [3, 2, 1, 0]) B h_plain_pairs k_plain_pairs_3210 (dk_cons (de_var 5) (dk_cons (de_var 4) (dk_cons (de_var 3) (dk_cons (de_var 7) (dk_nil)))))) (da_nil)))) (da_nil))) (de_cb (call_reprD B.o (B.gd rfl)) M.b_repr Boot.«repr» (da_cons (de_op (op_mulD B.o) (de_lst (da_cons (de_cty (call_tupD B.o) M.b_tuple Boot.«tuple» (da_cons (de_var 8) (da_nil))) (da_nil))) (de_int)) (da_nil))) (nomark _)) (dss_one (ds_ret (de_bl))) (dss_nil)) (dss_one (ds_if (dt_w (dt_and (dt_cmp (op_neO B.o) (de_var 8) (de_lst (da_nil)) (nomark _)) (dt_and1 (dt_cmp (op_isO) (de_var 6) (de_non) (nomark _))))) (dss_one (ds_set (i := 6) B.nd (de_op (op_addD B.o) (de_tup (da_cons (de_var 7) (da_nil))) (de_ix B.o (de_var 8) (de_neg (de_int)))))) (dss_nil)))))) hp) (dss_one (ds_if (dt_cmp (op_isO) (de_var 6) (de_non) (nomark _)) (dss_one (ds_if (dt_cmp (op_neO B.o) (de_lam B hh TB rfl hmT hu (LamX.lamS_by (by rfl)) (fun A outer s H E f c' en B => de_fn B h_least_plain (da_cons (de_var 3) (da_cons (de_var 4) (da_cons (de_var 5) (da_nil)))))) (de_tup (da_cons (de_str) (da_cons (de_str) (da_nil)))) (nomark _)) (dss_one (ds_ret (de_bl))) (dss_nil))) (dss_one (ds_if (dt_cmp (op_neO B.o) (de_cb (call_reprD B.o (B.gd rfl)) M.b_repr Boot.«repr» (da_cons (de_lst (da_cons (de_fn B h_least_plain (da_cons (de_var 3) (da_cons (de_var 4) (da_cons (de_var 5) (da_nil))))) (da_cons (de_fnK0 (ks := ["changes", "falls", "liars"]) (is := [2, 1, 0]) B h_least_plain k_least_plain_210 (dk_cons (de_var 5) (dk_cons (de_var 4) (dk_cons (de_var 3) (dk_nil))))) (da_nil)))) (da_nil))) (de_cb (call_reprD B.o (B.gd rfl)) M.b_repr Boot.«repr» (da_cons (de_lst (da_cons (de_var 6) (da_cons (de_var 6) (da_nil)))) (da_nil))) (nomark _)) (dss_one (ds_ret (de_bl))) (dss_nil))))))) hp) (dss_one (ds_ret (de_and (de_cmp (op_eqO B.o) (de_fn B h_least_plain (da_cons (de_int) (da_cons (de_int) (da_cons (de_int) (da_nil))))) (de_tup (da_cons (de_int) (da_cons (de_int) (da_cons (de_int) (da_nil))))) (nomark _)) (de_one (de_cmp (op_eqO B.o) (de_fn B h_plain_pairs (da_cons (de_int) (da_cons (de_int) (da_cons (de_int) (da_cons (de_int) (da_nil)))))) (de_tup (da_cons (de_tup (da_cons (de_int) (da_cons (de_int) (da_nil)))) (da_cons (de_tup (da_cons (de_int) (da_cons (de_int) (da_nil)))) (da_cons (de_tup (da_cons (de_int) (da_cons (de_int) (da_nil)))) (da_cons (de_tup (da_cons (de_int) (da_cons (de_int) (da_nil)))) (da_cons (de_tup (da_cons (de_int) (da_cons (de_int) (da_nil)))) (da_cons (de_tup (da_cons (de_int) (da_cons (de_int) (da_nil)))) (da_nil)))))))) (nomark _))))))
end
end Rd

set_option maxHeartbeats 3900000
namespace Pl
open PySem
open PySem.Spec
open PyProof.Rows
open L2
open Dl
open Sp
open Rd
theorem small (n : Nat) (h : n ≤ 100) : n ≤ sizeLine := by rw [sizeLine_eq]; omega
/-- the end of a def -/
abbrev EZ (PP : D → Nat → Prop) (RR : X → Nat → Prop) : DZ := { nx := fun st => PP .non st.n, rt := fun d st => PP d st.n, ex := fun x st => RR x st.n }
/-- what a def's reading must answer to its promise -/
def Keeps (N : List Str) (sp : DSp) (t : DB) : Prop := ∀ (ds : List D) (n : Nat) (PP : D → Nat → Prop) (RR : X → Nat → Prop), sp ds n PP RR → t ⟨slots N ds, n⟩ (EZ PP RR)
theorem intQ_int {d : D} {b : Bool} (h : intQ d = some b) : (b = true ∧ ∃ i, d = .int i) ∨ (b = false ∧ ∀ i, d ≠ .int i) := by
  cases d <;> simp only [intQ] at h <;> cases h
  all_goals first | exact .inl ⟨rfl, _, rfl⟩ | exact .inr ⟨rfl, fun i z => by cases z⟩
theorem withinQ_ok {d : D} {l m : Int} {b : Bool} (h : withinQ d l m = some b) : (∃ v, d = .int v ∧ b = (decide (l ≤ v) && decide (v ≤ m))) ∨ (b = false ∧ intQ d = some false) := by
  unfold withinQ at h
  split at h
  · cases h; exact .inl ⟨_, rfl, rfl⟩
  · rename_i hd
    rcases intQ_int h with ⟨_, i, e⟩ | ⟨e, _⟩
    · exact absurd e (hd i)
    · subst e; exact .inr ⟨rfl, h⟩
theorem p_is_integer (g : Gr) : Keeps N_is_integer sp_is_integer (t_is_integer g) := by
  intro ds n PP RR h
  unfold sp_is_integer spX fn_is_integer at h
  split at h
  · rename_i d
    cases e1 : intQ d with
    | none => rw [e1] at h; exact h.elim
    | some b =>
      rw [e1] at h
      simp only [t_is_integer, dsSeq, dsIf, dsRet, dsRetN, dsDrop, dsNext, dsRaise, dsSet, dsSetL, dsAsg, dsFor, dAnd, dOr, dNot, dIf, dCB, dCall, dCons, dNil, dVar, dC, dOp, dTest, dTup, dLst, dSz, dChain, dtAnd, dtOr, dtNot, dItems, dRng, gsTup, gsCons, gsNil, gVar, dApp, slots, DS.set, List.map, List.length, List.cons_append, List.nil_append, List.append_nil, List.getElem?_cons_zero, List.getElem?_cons_succ, List.set_cons_zero, List.set_cons_succ, List.replicate, isiD, isi1, clsT]
      cases d <;> simp only [intQ] at e1 <;> cases e1 <;> simp [tyD, isaT, knownB] <;> exact h
  · exact h.elim
theorem p_is_within (g : Gr) : Keeps N_is_within sp_is_within (t_is_within g) := by
  intro ds n PP RR h
  unfold sp_is_within spX fn_is_within at h
  split at h
  · rename_i d l m
    cases e1 : withinQ d l m with
    | none => rw [e1] at h; exact h.elim
    | some b =>
      rw [e1] at h
      have h : PP (.bl b) n := h
      simp only [t_is_within, dsSeq, dsIf, dsRet, dsRetN, dsDrop, dsNext, dsRaise, dsSet, dsSetL, dsAsg, dsFor, dAnd, dOr, dNot, dIf, dCB, dCall, dCons, dNil, dVar, dC, dOp, dTest, dTup, dLst, dSz, dChain, dtAnd, dtOr, dtNot, dItems, dRng, gsTup, gsCons, gsNil, gVar, dApp, slots, DS.set, List.map, List.length, List.cons_append, List.nil_append, List.append_nil, List.getElem?_cons_zero, List.getElem?_cons_succ, List.set_cons_zero, List.set_cons_succ, List.replicate]
      rcases withinQ_ok e1 with ⟨v, rfl, rfl⟩ | ⟨rfl, e3⟩
      · show ∃ b, D.bl true = .bl b ∧ _
        refine ⟨true, rfl, ?_⟩
        simp only [if_true]
        refine ⟨decide (l ≤ v), rfl, ?_⟩
        by_cases hl : l ≤ v
        · simp only [hl, decide_true, if_true, Bool.true_and] at h ⊢
          exact ⟨_, rfl, h⟩
        · simp only [hl, decide_false, Bool.false_eq_true, if_false, Bool.false_and] at h ⊢
          exact h
      · simp only [sp_is_integer, spX, fn_is_integer, e3, Option.map_some, runE]
        refine ⟨false, rfl, ?_⟩
        simp only [Bool.false_eq_true, if_false]
        exact h
  · exact h.elim
theorem p_need_within (g : Gr) (hx : (g.exs.lookup ("BadNumber" : Str)).isSome = true) : Keeps N_need_within sp_need_within (t_need_within g) := by
  intro ds n PP RR h
  unfold sp_need_within spX fn_need_within at h
  split at h
  · rename_i p d l m
    rw [runE_bind] at h
    unfold needW at h
    simp only [t_need_within, dsSeq, dsIf, dsRet, dsRetN, dsDrop, dsNext, dsRaise, dsSet, dsSetL, dsAsg, dsFor, dAnd, dOr, dNot, dIf, dCB, dCall, dCons, dNil, dVar, dC, dOp, dTest, dTup, dLst, dSz, dChain, dtAnd, dtOr, dtNot, dItems, dRng, gsTup, gsCons, gsNil, gVar, dApp, slots, DS.set, List.map, List.length, List.cons_append, List.nil_append, List.append_nil, List.getElem?_cons_zero, List.getElem?_cons_succ, List.set_cons_zero, List.set_cons_succ, List.replicate, sp_is_within, spX, fn_is_within]
    cases e1 : withinQ d l m with
    | none => rw [e1] at h; exact h.elim
    | some b =>
      rw [e1] at h
      simp only [Option.map_some, runE]
      refine ⟨b, rfl, ?_⟩
      cases b with
      | true => exact h
      | false => exact ⟨rfl, by decide, hx, h⟩
  · exact h.elim
theorem and_if {A B : Bool} (p : Bool → Prop) {q : Prop} (h : p (A && B)) (hq : p B → q) : if A = true then q else p false := by
  cases A with
  | true => exact hq h
  | false => exact h
/-- need_within, called -/
theorem c_nw {p : Str} {d : D} {l m : Int} {n : Nat} {P : D → Nat → Prop} {R : X → Nat → Prop} (h : runE (needW p d l m) (fun _ => P .non n) (fun x => R x n)) : sp_need_within [.str p, d, .int l, .int m] n P R := runE_bind.mpr h
theorem c_np {c r k : D} {n : Nat} {P : D → Nat → Prop} {R : X → Nat → Prop} (h : runE (needP c r k) (fun _ => P .non n) (fun x => R x n)) : sp_need_plain [c, r, k] n P R := runE_bind.mpr h
theorem p_need_plain (g : Gr) : Keeps N_need_plain sp_need_plain (t_need_plain g) := by
  intro ds n PP RR h
  unfold sp_need_plain spX fn_need_plain at h
  split at h
  · rename_i c r k
    rw [runE_bind] at h
    unfold needP at h
    rw [runE_bind] at h
    simp only [t_need_plain, dsSeq, dsIf, dsRet, dsRetN, dsDrop, dsNext, dsRaise, dsSet, dsSetL, dsAsg, dsFor, dAnd, dOr, dNot, dIf, dCB, dCall, dCons, dNil, dVar, dC, dOp, dTest, dTup, dLst, dSz, dChain, dtAnd, dtOr, dtNot, dItems, dRng, gsTup, gsCons, gsNil, gVar, dApp, slots, DS.set, List.map, List.length, List.cons_append, List.nil_append, List.append_nil, List.getElem?_cons_zero, List.getElem?_cons_succ, List.set_cons_zero, List.set_cons_succ, List.replicate]
    refine c_nw (runE_mono h (fun _ h => ?_) (fun _ h => h))
    cases c with
    | int cv =>
      simp only at h
      rw [runE_bind] at h
      refine c_nw (runE_mono h (fun _ h => ?_) (fun _ h => h))
      exact c_nw h
    | _ => exact h.elim
  · exact h.elim
theorem p_together (g : Gr) : Keeps N_together sp_together (t_together g) := by
  intro ds n PP RR h
  unfold sp_together spX fn_together at h
  split at h
  · simp only [t_together, dsSeq, dsIf, dsRet, dsRetN, dsDrop, dsNext, dsRaise, dsSet, dsSetL, dsAsg, dsFor, dAnd, dOr, dNot, dIf, dCB, dCall, dCons, dNil, dVar, dC, dOp, dTest, dTup, dLst, dSz, dChain, dtAnd, dtOr, dtNot, dItems, dRng, gsTup, gsCons, gsNil, gVar, dApp, slots, DS.set, List.map, List.length, List.cons_append, List.nil_append, List.append_nil, List.getElem?_cons_zero, List.getElem?_cons_succ, List.set_cons_zero, List.set_cons_succ, List.replicate]
    exact ⟨_, rfl, _, rfl, _, rfl, h⟩
  · exact h.elim
theorem p_plain_ends (g : Gr) : Keeps N_plain_ends sp_plain_ends (t_plain_ends g) := by
  intro ds n PP RR h
  unfold sp_plain_ends spX fn_plain_ends at h
  split at h
  · rename_i c r k l f
    rw [runE_bind] at h
    simp only [t_plain_ends, dsSeq, dsIf, dsRet, dsRetN, dsDrop, dsNext, dsRaise, dsSet, dsSetL, dsAsg, dsFor, dAnd, dOr, dNot, dIf, dCB, dCall, dCons, dNil, dVar, dC, dOp, dTest, dTup, dLst, dSz, dChain, dtAnd, dtOr, dtNot, dItems, dRng, gsTup, gsCons, gsNil, gVar, dApp, slots, DS.set, List.map, List.length, List.cons_append, List.nil_append, List.append_nil, List.getElem?_cons_zero, List.getElem?_cons_succ, List.set_cons_zero, List.set_cons_succ, List.replicate]
    refine c_np (runE_mono h (fun _ h => ?_) (fun _ h => h))
    rw [runE_bind] at h
    refine c_nw (runE_mono h (fun _ h => ?_) (fun _ h => h))
    rw [runE_bind] at h
    refine c_nw (runE_mono h (fun _ h => ?_) (fun _ h => h))
    split at h
    · refine ⟨_, rfl, _, rfl, _, rfl, _, rfl, ?_⟩
      exact and_if (fun b => PP (.bl b) n) h fun h => ⟨_, rfl, _, rfl, _, rfl, h⟩
    · exact h.elim
  · exact h.elim
theorem p_least_plain (g : Gr) (hx : (g.exs.lookup ("Clashing" : Str)).isSome = true) : Keeps N_least_plain sp_least_plain (t_least_plain g) := by
  intro ds n PP RR h
  unfold sp_least_plain spX fn_least_plain at h
  split at h
  · rename_i l f ch
    rw [runE_bind] at h
    simp only [t_least_plain, dsSeq, dsIf, dsRet, dsRetN, dsDrop, dsNext, dsRaise, dsSet, dsSetL, dsAsg, dsFor, dAnd, dOr, dNot, dIf, dCB, dCall, dCons, dNil, dVar, dC, dOp, dTest, dTup, dLst, dSz, dChain, dtAnd, dtOr, dtNot, dItems, dRng, gsTup, gsCons, gsNil, gVar, dApp, slots, DS.set, List.map, List.length, List.cons_append, List.nil_append, List.append_nil, List.getElem?_cons_zero, List.getElem?_cons_succ, List.set_cons_zero, List.set_cons_succ, List.replicate]
    refine c_nw (runE_mono h (fun _ h => ?_) (fun _ h => h))
    rw [runE_bind] at h
    refine c_nw (runE_mono h (fun _ h => ?_) (fun _ h => h))
    rw [runE_bind] at h
    refine c_nw (runE_mono h (fun _ h => ?_) (fun _ h => h))
    split at h
    · refine ⟨_, rfl, _, rfl, _, rfl, _, rfl, _, rfl, _, rfl, ?_⟩
      split at h
      · rename_i z
        rw [if_pos (decide_eq_true z)]
        exact ⟨rfl, by decide, hx, h⟩
      · rename_i z
        rw [if_neg (fun y => z (of_decide_eq_true y))]
        exact ⟨_, rfl, _, rfl, small _ (by decide), h⟩
    · exact h.elim
  · exact h.elim
theorem eqD_int (i j : Int) : eqD (.int i) (.int j) = some (decide (i = j)) := by
  unfold eqD
  simp [toPy, SeqAt.shaped, PyData.canLay0, PyData.depth, PyData.eqv]
  by_cases h : i = j <;> simp [h]
theorem neO_int (i j : Int) : neO (.int i) (.int j) = some (.bl (!decide (i = j))) := by
  unfold neO
  rw [eqD_int]; rfl
theorem isi_seq {g : Gr} {v : D} {xs : List D} (h : seqD v = some xs) : ∃ b, isiAny g v [.ty "list", .ty "tuple"] = some b ∧ ((b = true ∧ (v = .lst xs ∨ v = .tup xs)) ∨ (b = false ∧ xs = [])) := by
  cases v <;> simp only [seqD] at h <;> cases h <;> simp [isiAny, isi1, tyD, clsT, isaT, knownB]
/-- the body of plain_bears' loop -/
theorem c_row {p : Str} {v : D} {n : Nat} {E : DZ} {g : Gr} {e : List Sl} (hx : (g.exs.lookup ("BadNumber" : Str)).isSome = true) (h3 : e[3]? = some (.fz (.str p))) (h4 : e[4]? = some (.fz v)) (h : runE (needRow p v) (fun _ => E.nx ⟨e, n⟩) (fun x => E.ex x ⟨e, n⟩)) :
    t_plain_bears_1 g ⟨e, n⟩ E := by
  unfold needRow at h
  simp only [t_plain_bears_1, dsSeq, dsIf, dsRet, dsRetN, dsDrop, dsNext, dsRaise, dsSet, dsSetL, dsAsg, dsFor, dAnd, dOr, dNot, dIf, dCB, dCall, dCons, dNil, dVar, dC, dOp, dTest, dTup, dLst, dSz, dChain, dtAnd, dtOr, dtNot, dItems, dRng, gsTup, gsCons, gsNil, gVar, dApp, slots, DS.set, List.map, List.length, List.cons_append, List.nil_append, List.append_nil, List.getElem?_cons_zero, List.getElem?_cons_succ, List.set_cons_zero, List.set_cons_succ, List.replicate, dIsiT, h3, h4]
  cases e1 : seqD v with
  | none => rw [e1] at h; exact h.elim
  | some xs =>
    rw [e1] at h
    obtain ⟨b, e2, e3⟩ := isi_seq (g := g) e1
    refine ⟨small _ (by decide), by decide, b, e2, b, rfl, ?_⟩
    rcases e3 with ⟨rfl, e3⟩ | ⟨rfl, rfl⟩
    · simp only [Bool.not_true, Bool.false_eq_true, if_false]
      have hl : ∃ k, lenD [v] = some (.int k) ∧ k = xs.length := by rcases e3 with rfl | rfl <;> exact ⟨_, rfl, rfl⟩
      obtain ⟨k, hk, rfl⟩ := hl
      refine ⟨_, hk, _, neO_int _ _, _, rfl, ?_⟩
      have bad4 : ((xs.length : Int) = 4) = False → runE (some (.error (bad "BadNumber" p)) : Option (Except X Unit)) (fun _ => E.nx ⟨e, n⟩) (fun x => E.ex x ⟨e, n⟩) → ∀ q : Prop, if (!decide ((xs.length : Int) = 4)) = true then ([D.str p].length = F_BadNumber.length ∧ [D.str p].length ≤ 1000 ∧ (g.exs.lookup ("BadNumber" : Str)).isSome = true ∧ E.ex ("BadNumber", (F_BadNumber.zip [D.str p]).reverse) ⟨e, n⟩) else q := fun ne z q => by
        rw [decide_eq_false (by rw [ne]; exact id), if_pos (by rfl)]
        exact ⟨rfl, (by decide : 1 ≤ 1000), hx, z⟩
      match xs, h with
      | [c, r, k, l], h =>
        have h : runE (bindE (needP c r k) fun _ => needW "liars" l 0 5) (fun _ => E.nx ⟨e, n⟩) (fun x => E.ex x ⟨e, n⟩) := h
        rw [runE_bind] at h
        rw [if_neg (by simp)]
        have ix : ∀ (i : Int) (d : D), L2.atI [c, r, k, l] i = some d → ixD v (.int i) = some d := fun i d q => by
          rcases e3 with rfl | rfl <;> exact q
        refine ⟨c, ix 0 c rfl, r, ix 1 r rfl, k, ix 2 k rfl, c_np (runE_mono h (fun _ h => ?_) (fun _ h => h))⟩
        refine ⟨l, ix 3 l rfl, c_nw h⟩
      | [], h => exact bad4 (by simp) h _
      | [_], h => exact bad4 (by simp) h _
      | [_, _], h => exact bad4 (by simp) h _
      | [_, _, _], h => exact bad4 (by simp) h _
      | _ :: _ :: _ :: _ :: _ :: ys, h => exact bad4 (by simp; omega) h _
    · simp only [Bool.not_false, if_true]
      exact ⟨rfl, (by decide : 1 ≤ 1000), hx, h⟩
theorem bears_inv {one other ch : D} {P : D → Prop} {R : X → Prop} (h : runE (match seqD one, seqD other, ch with
    | some [.int c, .int r, .int k, .int l], some [.int c', .int r', .int k', .int l'], .int h => some (.ok (.bl (bearsI c r k l c' r' k' l' h)))
    | _, _, _ => none) P R) : ∃ c r k l c' r' k' l' hh, seqD one = some [.int c, .int r, .int k, .int l] ∧ seqD other = some [.int c', .int r', .int k', .int l'] ∧ ch = .int hh ∧ P (.bl (bearsI c r k l c' r' k' l' hh)) := by
  split at h
  · exact ⟨_, _, _, _, _, _, _, _, _, by assumption, by assumption, rfl, h⟩
  · exact h.elim
theorem p_plain_bears (g : Gr) (hx : (g.exs.lookup ("BadNumber" : Str)).isSome = true) : Keeps N_plain_bears sp_plain_bears (t_plain_bears g) := by
  intro ds n PP RR h
  unfold sp_plain_bears spX fn_plain_bears at h
  split at h
  · rename_i one other ch
    rw [runE_bind] at h
    unfold t_plain_bears
    refine ⟨small 2 (by decide), small 2 (by decide), small 2 (by decide), _, rfl, ?_⟩
    refine ⟨[.str "one", one], rfl, rfl, _, _, rfl, _, _, rfl, rfl, ?_⟩
    refine c_row hx rfl rfl (runE_mono h (fun _ h => ?_) (fun _ h => h))
    rw [runE_bind] at h
    refine ⟨[.str "other", other], rfl, rfl, _, _, rfl, _, _, rfl, rfl, ?_⟩
    refine c_row hx rfl rfl (runE_mono h (fun _ h => ?_) (fun _ h => h))
    rw [runE_bind] at h
    simp only [dsForL, dsSeq, dsIf, dsRet, dsRetN, dsDrop, dsNext, dsRaise, dsSet, dsSetL, dsAsg, dsFor, dAnd, dOr, dNot, dIf, dCB, dCall, dCons, dNil, dVar, dC, dOp, dTest, dTup, dLst, dSz, dChain, dtAnd, dtOr, dtNot, dItems, dRng, gsTup, gsCons, gsNil, gVar, dApp, slots, DS.set, List.map, List.length, List.cons_append, List.nil_append, List.append_nil, List.getElem?_cons_zero, List.getElem?_cons_succ, List.set_cons_zero, List.set_cons_succ, List.replicate]
    refine c_nw (runE_mono h (fun _ h => ?_) (fun _ h => h))
    obtain ⟨c, r, k, l, c', r', k', l', hh, e1, e2, rfl, h9⟩ := bears_inv h
    have ix : ∀ {v : D} {xs : List D} (i : Int) (d y : D) (ys : List D), seqD v = some xs → xs = y :: ys → L2.atI xs i = some d → ixD v (.int i) = some d := fun {v xs} i d y ys q1 q2 q => by
      subst q2
      cases v <;> simp only [seqD] at q1 <;> cases q1 <;> exact q
    refine ⟨_, ix 2 _ _ _ e1 rfl rfl, _, ix 1 _ _ _ e2 rfl rfl, _, rfl, _, ix 1 _ _ _ e1 rfl rfl, _, ix 2 _ _ _ e2 rfl rfl, _, rfl, _, rfl, ?_⟩
    refine ⟨_, ix 0 _ _ _ e1 rfl rfl, _, ix 0 _ _ _ e2 rfl rfl, ?_⟩
    refine ⟨_, ix 3 _ _ _ e1 rfl rfl, _, ix 3 _ _ _ e2 rfl rfl, _, rfl, _, rfl, _, rfl, h9⟩
  · exact h.elim
theorem forL_ind {t : DG} {u : DB} {E : DZ} (I : List D → DS → Prop) (h0 : ∀ st, I [] st → E.nx st) (hs : ∀ d r st (N : DS → Prop), I (d :: r) st → (∀ st', I r st' → N st') → t d st fun st1 => u st1 { E with nx := N, ct := N, bk := E.nx }) : ∀ ds st, I ds st → dsForL t u ds st E
  | [], st, h => h0 st h
  | d :: r, st, h => hs d r st _ h fun st' h' => forL_ind I h0 hs r st' h'
/-- the pairs of one number of readers -/
def rowI (c l f ch : Int) (i : Nat) : List (Int × Int) := (List.range c.toNat).filterMap fun (j : Nat) => if endsI c (1 + i) (1 + j) l f && bearsI c (1 + i) (1 + j) l c (1 + i) (1 + j) l ch then some ((1 + (i : Int)), (1 + (j : Int))) else none
theorem pairsI_rows (c l f ch : Int) : pairsI c l f ch = ((List.range c.toNat).map (rowI c l f ch)).flatten := rfl
theorem range_sub (c : Int) (h : 1 ≤ c) (h5 : c ≤ 5) : rangeD2 [.int 1, .int (c + 1)] = some ((List.range c.toNat).map fun (k : Nat) => .int (1 + (k : Int))) := by
  show (if -(2 ^ 62) ≤ (1 : Int) ∧ (1 : Int) < 2 ^ 62 ∧ -(2 ^ 62) ≤ c + 1 ∧ c + 1 < 2 ^ 62 then some ((List.range (c + 1 - 1).toNat).map fun (k : Nat) => D.int (1 + (k : Int))) else none) = _
  rw [if_pos (by omega)]
  have : (c + 1 - 1).toNat = c.toNat := by omega
  rw [this]
theorem needW_ok {p : Str} {v l m : Int} (h1 : l ≤ v) (h2 : v ≤ m) : needW p (.int v) l m = some (.ok ()) := by
  unfold needW withinQ
  simp [h1, h2]
theorem needP_ok {c r k : Int} (h1 : 1 ≤ c) (h2 : c ≤ 5) (h3 : 1 ≤ r) (h4 : r ≤ c) (h5 : 1 ≤ k) (h6 : k ≤ c) : needP (.int c) (.int r) (.int k) = some (.ok ()) := by
  unfold needP
  rw [needW_ok h1 h2]
  simp only [bindE]
  rw [needW_ok h3 h4]
  exact needW_ok h5 h6
theorem ends_ok {c r k l f : Int} (h1 : 1 ≤ c) (h2 : c ≤ 5) (h3 : 1 ≤ r) (h4 : r ≤ c) (h5 : 1 ≤ k) (h6 : k ≤ c) (h7 : 0 ≤ l) (h8 : l ≤ 5) (h9 : 0 ≤ f) (h10 : f ≤ 5) {n : Nat} {P : D → Nat → Prop} {R : X → Nat → Prop} (h : P (.bl (endsI c r k l f)) n) :
    sp_plain_ends [.int c, .int r, .int k, .int l, .int f] n P R := by
  unfold sp_plain_ends spX fn_plain_ends
  rw [runE_bind, needP_ok h1 h2 h3 h4 h5 h6]
  simp only [runE]
  rw [needW_ok h7 h8, needW_ok h9 h10]
  exact h
theorem bears_ok {c r k l ch : Int} (h1 : 1 ≤ c) (h2 : c ≤ 5) (h3 : 1 ≤ r) (h4 : r ≤ c) (h5 : 1 ≤ k) (h6 : k ≤ c) (h7 : 0 ≤ l) (h8 : l ≤ 5) (h9 : 0 ≤ ch) (h10 : ch ≤ 5) {n : Nat} {P : D → Nat → Prop} {R : X → Nat → Prop} (h : P (.bl (bearsI c r k l c r k l ch)) n) :
    sp_plain_bears [.tup [.int c, .int r, .int k, .int l], .tup [.int c, .int r, .int k, .int l], .int ch] n P R := by
  have row : ∀ p : Str, needRow p (.tup [.int c, .int r, .int k, .int l]) = some (.ok ()) := fun p => by
    show bindE (needP (.int c) (.int r) (.int k)) (fun _ => needW "liars" (.int l) 0 5) = _
    rw [needP_ok h1 h2 h3 h4 h5 h6]
    exact needW_ok h7 h8
  show runE (bindE (needRow "one" (.tup [.int c, .int r, .int k, .int l])) fun _ => bindE (needRow "other" (.tup [.int c, .int r, .int k, .int l])) fun _ => bindE (needW "changes" (.int ch) 0 5) fun _ => some (.ok (.bl (bearsI c r k l c r k l ch)))) (fun d => P d n) (fun x => R x n)
  rw [row, row, needW_ok h9 h10]
  exact h
theorem p_plain_pairs (g : Gr) : Keeps N_plain_pairs sp_plain_pairs (t_plain_pairs g) := by
  intro ds n PP RR h
  unfold sp_plain_pairs spX fn_plain_pairs at h
  split at h
  · rename_i c l f ch
    -- the four numbers
    have key : ∀ {p : Str} {d : D} {lo hi : Int} {k : Option (Except X D)}, runE (bindE (needW p d lo hi) fun _ => k) (fun d => PP d n) (fun x => RR x n) → (needW p d lo hi = some (.error (bad "BadNumber" p)) ∧ RR (bad "BadNumber" p) n) ∨ (needW p d lo hi = some (.ok ()) ∧ withinQ d lo hi = some true ∧ runE k (fun d => PP d n) (fun x => RR x n)) := fun {p d lo hi k} q => by
      unfold needW at q ⊢
      cases z : withinQ d lo hi with
      | none => rw [z] at q; exact q.elim
      | some b =>
        rw [z] at q
        cases b with
        | true => exact .inr ⟨rfl, rfl, q⟩
        | false => exact .inl ⟨rfl, q⟩
    have num : ∀ {d : D} {lo hi : Int}, withinQ d lo hi = some true → ∃ v, d = .int v ∧ lo ≤ v ∧ v ≤ hi := fun {d lo hi} q => by
      rcases withinQ_ok q with ⟨v, rfl, e⟩ | ⟨e, _⟩
      · have e := e.symm
        simp only [Bool.and_eq_true, decide_eq_true_eq] at e
        exact ⟨v, rfl, e⟩
      · cases e
    simp only [t_plain_pairs, dsSeq, dsIf, dsRet, dsRetN, dsDrop, dsNext, dsRaise, dsSet, dsSetL, dsAsg, dsFor, dAnd, dOr, dNot, dIf, dCB, dCall, dCons, dNil, dVar, dC, dOp, dTest, dTup, dLst, dSz, dChain, dtAnd, dtOr, dtNot, dItems, dRng, gsTup, gsCons, gsNil, gVar, dApp, slots, DS.set, List.map, List.length, List.cons_append, List.nil_append, List.append_nil, List.getElem?_cons_zero, List.getElem?_cons_succ, List.set_cons_zero, List.set_cons_succ, List.replicate]
    rcases key h with ⟨e, hr⟩ | ⟨e, w1, h⟩
    · refine c_nw ?_
      rw [e]; exact hr
    refine c_nw ?_
    rw [e]
    rcases key h with ⟨e, hr⟩ | ⟨e, w2, h⟩
    · refine c_nw ?_
      rw [e]; exact hr
    refine c_nw ?_
    rw [e]
    rcases key h with ⟨e, hr⟩ | ⟨e, w3, h⟩
    · refine c_nw ?_
      rw [e]; exact hr
    refine c_nw ?_
    rw [e]
    rcases key h with ⟨e, hr⟩ | ⟨e, w4, h⟩
    · refine c_nw ?_
      rw [e]; exact hr
    refine c_nw ?_
    rw [e]
    obtain ⟨c, rfl, c1, c2⟩ := num w1
    obtain ⟨l, rfl, l1, l2⟩ := num w2
    obtain ⟨f, rfl, f1, f2⟩ := num w3
    obtain ⟨ch, rfl, ch1, ch2⟩ := num w4
    refine ⟨small 0 (by decide), _, rfl, _, range_sub c c1 c2, ?_⟩
    refine forL_ind (fun r st => ∃ (dn rs : List Nat) (s5 s6 s7 : Sl) (acc : List D), dn ++ rs = List.range c.toNat ∧ r = rs.map (fun (k : Nat) => D.int (1 + (k : Int))) ∧ acc = (dn.map (rowI c l f ch)).flatten.map cpD ∧ acc.length ≤ 5 * dn.length ∧ st = ⟨[.fz (.int c), .fz (.int l), .fz (.int f), .fz (.int ch), .ol acc, s5, s6, s7], n⟩) ?_ ?_ _ _ ⟨[], List.range c.toNat, .un, .un, .un, [], rfl, rfl, rfl, by simp, rfl⟩
    · rintro st ⟨dn, rs, s5, s6, s7, acc, e1, e2, e3, e4, rfl⟩
      have : rs = [] := by
        cases rs with
        | nil => rfl
        | cons a b => simp at e2
      subst this
      rw [List.append_nil] at e1
      subst e1 e3
      exact ⟨_, rfl, h⟩
    · rintro d r st N ⟨dn, rs, s5, s6, s7, acc, e1, e2, e3, e4, rfl⟩ hN
      cases rs with
      | nil => cases e2
      | cons i rs =>
        simp only [List.map_cons, List.cons.injEq] at e2
        obtain ⟨rfl, rfl⟩ := e2
        have hi : i < c.toNat := by
          have : i ∈ List.range c.toNat := by rw [← e1]; simp
          exact List.mem_range.mp this
        have hdn : dn.length + 1 ≤ 5 := by
          have := congrArg List.length e1
          simp at this
          omega
        simp only [t_plain_pairs_2, dsSeq, dsIf, dsRet, dsRetN, dsDrop, dsNext, dsRaise, dsSet, dsSetL, dsAsg, dsFor, dAnd, dOr, dNot, dIf, dCB, dCall, dCons, dNil, dVar, dC, dOp, dTest, dTup, dLst, dSz, dChain, dtAnd, dtOr, dtNot, dItems, dRng, gsTup, gsCons, gsNil, gVar, dApp, slots, DS.set, List.map, List.length, List.cons_append, List.nil_append, List.append_nil, List.getElem?_cons_zero, List.getElem?_cons_succ, List.set_cons_zero, List.set_cons_succ, List.replicate]
        refine ⟨_, rfl, _, range_sub c c1 c2, ?_⟩
        refine forL_ind (fun r st => ∃ (dn2 rs2 : List Nat) (s6 s7 : Sl) (acc2 : List D), dn2 ++ rs2 = List.range c.toNat ∧ r = rs2.map (fun (k : Nat) => D.int (1 + (k : Int))) ∧ acc2 = acc ++ (dn2.filterMap fun (j : Nat) => if endsI c (1 + i) (1 + j) l f && bearsI c (1 + i) (1 + j) l c (1 + i) (1 + j) l ch then some ((1 + (i : Int)), (1 + (j : Int))) else none).map cpD ∧ acc2.length ≤ 5 * dn.length + dn2.length ∧
          st = ⟨[.fz (.int c), .fz (.int l), .fz (.int f), .fz (.int ch), .ol acc2, .fz (.int (1 + (i : Int))), s6, s7], n⟩) ?_ ?_ _ _ ⟨[], List.range c.toNat, s6, s7, acc, rfl, rfl, by simp, by simpa using e4, rfl⟩
        · rintro st ⟨dn2, rs2, s6, s7, acc2, g1, g2, g3, g4, rfl⟩
          have : rs2 = [] := by
            cases rs2 with
            | nil => rfl
            | cons a b => simp at g2
          subst this
          rw [List.append_nil] at g1
          subst g1
          refine hN _ ⟨dn ++ [i], rs, _, s6, s7, acc2, by rw [← e1]; simp, rfl, ?_, ?_, rfl⟩
          · rw [g3, e3, List.map_append, List.flatten_append, List.map_append]
            simp [rowI]
          · simp at g4 ⊢
            omega
        · rintro d r st N2 ⟨dn2, rs2, s6, s7, acc2, g1, g2, g3, g4, rfl⟩ hN2
          cases rs2 with
          | nil => cases g2
          | cons j rs2 =>
            simp only [List.map_cons, List.cons.injEq] at g2
            obtain ⟨rfl, rfl⟩ := g2
            have hj : j < c.toNat := by
              have : j ∈ List.range c.toNat := by rw [← g1]; simp
              exact List.mem_range.mp this
            have hdn2 : dn2.length + 1 ≤ 5 := by
              have := congrArg List.length g1
              simp at this
              omega
            simp only [t_plain_pairs_1, dsSeq, dsIf, dsRet, dsRetN, dsDrop, dsNext, dsRaise, dsSet, dsSetL, dsAsg, dsFor, dAnd, dOr, dNot, dIf, dCB, dCall, dCons, dNil, dVar, dC, dOp, dTest, dTup, dLst, dSz, dChain, dtAnd, dtOr, dtNot, dItems, dRng, gsTup, gsCons, gsNil, gVar, dApp, slots, DS.set, List.map, List.length, List.cons_append, List.nil_append, List.append_nil, List.getElem?_cons_zero, List.getElem?_cons_succ, List.set_cons_zero, List.set_cons_succ, List.replicate]
            refine ⟨small 4 (by decide), ends_ok c1 c2 (by omega) (by omega) (by omega) (by omega) l1 l2 f1 f2 ⟨_, rfl, ?_⟩⟩
            have g4' : acc2.length ≤ 5 * (dn.length) + (dn2.length + 1) := by omega
            cases he : endsI c (1 + i) (1 + j) l f with
            | false =>
              simp only [Bool.false_eq_true, if_false]
              refine hN2 _ ⟨dn2 ++ [j], rs2, _, _, acc2, by rw [← g1]; simp, rfl, ?_, by simpa using g4', rfl⟩
              rw [g3, List.filterMap_append]
              simp [he]
            | true =>
              simp only [if_true]
              refine bears_ok c1 c2 (by omega) (by omega) (by omega) (by omega) l1 l2 ch1 ch2 ⟨_, rfl, ?_⟩
              cases hb : bearsI c (1 + i) (1 + j) l c (1 + i) (1 + j) l ch with
              | false =>
                simp only [Bool.false_eq_true, if_false]
                refine hN2 _ ⟨dn2 ++ [j], rs2, _, _, acc2, by rw [← g1]; simp, rfl, ?_, by simpa using g4', rfl⟩
                rw [g3, List.filterMap_append]
                simp [he, hb]
              | true =>
                simp only [if_true]
                refine ⟨⟨_, rfl⟩, small 2 (by decide), _, rfl, ?_, ?_⟩
                · rw [sizeLine_eq]; omega
                · refine hN2 _ ⟨dn2 ++ [j], rs2, _, _, acc2 ++ [cpD (1 + (i : Int), 1 + (j : Int))], by rw [← g1]; simp, rfl, ?_, by simp; omega, rfl⟩
                  rw [g3, List.filterMap_append]
                  simp [he, hb]
  · exact h.elim
theorem p__law_pick (g : Gr) : Keeps N__law_pick sp__law_pick (t__law_pick g) := by
  rintro ds n PP RR ⟨d, xs, rfl, hx, h0, h1, hn, hP⟩
  simp only [t__law_pick, dsSeq, dsIf, dsRet, dsRetN, dsDrop, dsNext, dsRaise, dsSet, dsSetL, dsAsg, dsFor, dAnd, dOr, dNot, dIf, dCB, dCall, dCons, dNil, dVar, dC, dOp, dTest, dTup, dLst, dSz, dChain, dtAnd, dtOr, dtNot, dItems, dRng, gsTup, gsCons, gsNil, gVar, dApp, slots, DS.set, List.map, List.length, List.cons_append, List.nil_append, List.append_nil, List.getElem?_cons_zero, List.getElem?_cons_succ, List.set_cons_zero, List.set_cons_succ, List.replicate]
  have hl : lenD [d] = some (.int xs.length) := by
    cases d <;> simp only [itemsOf] at hx <;> cases hx <;> rfl
  refine ⟨_, hl, (xs.length : Int), rfl, by omega, by omega, hn, fun i i0 i1 => ?_⟩
  obtain ⟨j, rfl⟩ : ∃ j : Nat, i = j := ⟨i.toNat, by omega⟩
  have hj : j < xs.length := by omega
  have at_ : L2.atI xs (j : Int) = some xs[j] := by
    unfold L2.atI
    have : ixN xs.length (j : Int) = some j := by
      unfold ixN
      simp
      omega
    rw [this]
    exact List.getElem?_eq_getElem hj
  refine ⟨xs[j], ?_, hP _ (List.getElem_mem hj)⟩
  cases d <;> simp only [itemsOf] at hx <;> cases hx <;> exact at_
end Pl

set_option maxHeartbeats 3900000
namespace Dr
open PySem
open PySem.Spec
open PyProof.Rows
open L2
open Dl
open Sp
theorem ite_t {c : Bool} {a b : Prop} (hc : c = true) (h : a) : if c = true then a else b := by rw [if_pos hc]; exact h
theorem ite_f {c : Bool} {a b : Prop} (hc : ¬ c = true) (h : b) : if c = true then a else b := by rw [if_neg hc]; exact h
theorem seq_join {t u : TS} {D : Ends} {σ : L2.St} {H : Hp} (C : L2.St → Hp → Prop) (hu : ∀ σ' H', C σ' H' → u D σ' H') (ht : ∀ (N : L2.St → Hp → Prop), (∀ σ' H', C σ' H' → N σ' H') → t { D with nx := N } σ H) : tSeq t u D σ H := ht _ hu
theorem dpall_ints {K : PySem.W.Frag} {H : Hp} : ∀ ns : List Int, DpAll K H (ns.map V.int) (ns.map PyData.int)
  | [] => .nil
  | n :: ns => .cons (.int n) (dpall_ints ns)
theorem shaped_ints (ns : List Int) : SeqAt.shaped (.list (ns.map PyData.int)) = true := by
  have h1 : ∀ ns : List Int, PyData.canLayAll0 (ns.map PyData.int) = true := fun ns => by
    induction ns with
    | nil => rfl
    | cons n ns ih => simp [PyData.canLayAll0, PyData.canLay0, ih]
  have h2 : ∀ ns : List Int, PyData.depthAll (ns.map PyData.int) = 0 := fun ns => by
    induction ns with
    | nil => rfl
    | cons n ns ih => simp [PyData.depthAll, PyData.depth, ih]
  unfold SeqAt.shaped
  simp [PyData.canLay0, PyData.depth, h1, h2]
section
variable {gb : Bool} {P : Program} {w : World} {K : PySem.W.Frag} {mg : Str → Option Value} {base : Heap} {f : Addr} {fd : FuncData} {g : Gr}
theorem ok_draw (F : FunD K "_law_draw" "_law_draw" (defArgs Hd.s__law_draw) (defBody Hd.s__law_draw) (defScope Hd.s__law_draw) [] [] f fd) (hK : g.K = K) (b_len : mg "len" = none) (b_abs : mg "abs" = none) (b_int : mg "int" = none) : Dl.FnR gb P w K mg base 1 f fd ["pen", "many"] (lsp g sp__law_draw) := by
  have S : FnScope ["pen", "many", "rest", "spot", "cell", "great", "mixed"] ["pen", "many"] (defScope Hd.s__law_draw) := ⟨rfl, rfl, rfl, by decide +kernel, rfl, by decide +kernel, by decide +kernel⟩
  obtain ⟨oc, od, dV, kV, doc, pm, an, cdv, ct, osl, rfl, lk, hcd, _, _⟩ := F.ex
  refine ⟨fun vs H Q E h => ?_, fun A outer s H args us vs Q E hg hr e0 b r h => ?_⟩
  · obtain ⟨F0, ds, n, PP, RR, _, rr, ⟨m, rfl, _⟩, _⟩ := h
    rw [rr.length]; rfl
  obtain ⟨F0, ds, n, PP, RR, wd, rr, ⟨m, rfl, hm0, hm1, hn, hP⟩, hQ, hE⟩ := h
  simp only [Reps, Rep] at rr
  obtain ⟨_, _, rfl, rfl, _, _, rfl, rfl, rfl⟩ := rr
  have hu : A.units + 3 + 64 < cLine := by have := hr.un; omega
  refine LamX.run_ofS lk hcd S hr e0 b r rfl fun hr' => ⟨_, pss_cons (ps_if (pt_cmpR op_gt (pe_ix ix_list (pe_var (i := 0) rfl (.inl rfl)) (pe_int) (fun _ _ => rfl)) (pe_int) (nomark _)) (pss_cons (ps_set (i := 2) S.nd rfl (Or.inl rfl) (pe_callTy call_int1 rfl b_int Boot.«int» (pa_cons (pe_ix ix_list (pe_var (i := 0) rfl (.inl rfl)) (pe_int) (fun _ _ => rfl)) pa_nil))) (pss_cons (ps_asg (pe_op op_fdiv (pe_var (i := 2) rfl (.inl rfl)) (pe_var (i := 1) rfl (.inl rfl))) (pg_sub (pe_var (i := 0) rfl (.inl rfl)) (pe_int) set_list)) (pss_one (ps_ret (pe_op op_mod (pe_callTy call_int1 rfl b_int Boot.«int» (pa_cons (pe_var (i := 2) rfl (.inl rfl)) pa_nil)) (pe_var (i := 1) rfl (.inl rfl))))))) (pss_nil)) (pss_cons (ps_set (i := 3) S.nd rfl (Or.inl rfl) (pe_ix ix_list (pe_var (i := 0) rfl (.inl rfl)) (pe_int) (fun _ _ => rfl))) (pss_cons (ps_asg (pe_op op_add (pe_var (i := 3) rfl (.inl rfl)) (pe_int)) (pg_sub (pe_var (i := 0) rfl (.inl rfl)) (pe_int) set_list)) (pss_cons (ps_set (i := 4) S.nd rfl (Or.inl rfl) (pe_op op_add (pe_op op_mul (pe_int) (pe_var (i := 3) rfl (.inl rfl))) (pe_int))) (pss_cons (ps_if (pt_cmpR (op_neD hu) (pe_ix ix_list (pe_var (i := 0) rfl (.inl rfl)) (pe_int) (fun _ _ => rfl)) (pe_lst pa_nil) (nomark _)) (pss_one (ps_set (i := 4) S.nd rfl (Or.inl rfl) (pe_ix ix_list (pe_ix ix_list (pe_var (i := 0) rfl (.inl rfl)) (pe_int) (fun _ _ => rfl)) (pe_op op_mod (pe_callTy call_int1 rfl b_int Boot.«int» (pa_cons (pe_var (i := 3) rfl (.inl rfl)) pa_nil)) (pe_callB call_len_seq rfl b_len Boot.«len» (pa_cons (pe_ix ix_list (pe_var (i := 0) rfl (.inl rfl)) (pe_int) (fun _ _ => rfl)) pa_nil))) (fun _ _ => rfl)))) (pss_nil)) (pss_cons (ps_if (L2.PW.pt (pw_and (pt_cmpR op_lt (pe_var (i := 3) rfl (.inl rfl)) (pe_callB call_len_seq rfl b_len Boot.«len» (pa_cons (pe_ix ix_list (pe_var (i := 0) rfl (.inl rfl)) (pe_int) (fun _ _ => rfl)) pa_nil)) (nomark _)) (pw_and1 (pt_cmpR op_ge (pe_callB call_abs rfl b_abs Boot.«abs» (pa_cons (pe_var (i := 4) rfl (.inl rfl)) pa_nil)) (pe_op op_pow (pe_int) (pe_int)) (nomark _))))) (pss_cons (ps_set (i := 5) S.nd rfl (Or.inl rfl) (pe_op op_add (pe_op op_mul (pe_int) (pe_op op_sub (pe_callB call_abs rfl b_abs Boot.«abs» (pa_cons (pe_var (i := 4) rfl (.inl rfl)) pa_nil)) (pe_op op_pow (pe_int) (pe_int)))) (pe_callTy call_int1 rfl b_int Boot.«int» (pa_cons (pe_cmpR op_lt (pe_var (i := 4) rfl (.inl rfl)) (pe_int) (nomark _)) pa_nil)))) (pss_cons (ps_asg (pe_op op_fdiv (pe_callTy call_int1 rfl b_int Boot.«int» (pa_cons (pe_var (i := 5) rfl (.inl rfl)) pa_nil)) (pe_var (i := 1) rfl (.inl rfl))) (pg_sub (pe_var (i := 0) rfl (.inl rfl)) (pe_int) set_list)) (pss_one (ps_ret (pe_op op_mod (pe_callTy call_int1 rfl b_int Boot.«int» (pa_cons (pe_var (i := 5) rfl (.inl rfl)) pa_nil)) (pe_var (i := 1) rfl (.inl rfl))))))) (pss_nil)) (pss_cons (ps_set (i := 6) S.nd rfl (Or.inl rfl) (pe_op op_mod (pe_callTy call_int1 rfl b_int Boot.«int» (pa_cons (pe_op op_pow (pe_op op_add (pe_op op_add (pe_op op_mod (pe_callTy call_int1 rfl b_int Boot.«int» (pa_cons (pe_var (i := 4) rfl (.inl rfl)) pa_nil)) (pe_int)) (pe_op op_mul (pe_int) (pe_var (i := 3) rfl (.inl rfl)))) (pe_int)) (pe_int)) pa_nil)) (pe_int))) (pss_cons (ps_set (i := 6) S.nd rfl (Or.inl rfl) (pe_op op_mod (pe_callTy call_int1 rfl b_int Boot.«int» (pa_cons (pe_op op_pow (pe_op op_add (pe_op op_add (pe_op op_mul (pe_var (i := 6) rfl (.inl rfl)) (pe_op op_add (pe_op op_mul (pe_int) (pe_var (i := 3) rfl (.inl rfl))) (pe_int))) (pe_op op_mul (pe_op op_mul (pe_int) (pe_var (i := 3) rfl (.inl rfl))) (pe_var (i := 3) rfl (.inl rfl)))) (pe_int)) (pe_int)) pa_nil)) (pe_int))) (pss_one (ps_ret (pe_op op_mod (pe_callTy call_int1 rfl b_int Boot.«int» (pa_cons (pe_op op_fdiv (pe_var (i := 6) rfl (.inl rfl)) (pe_int)) pa_nil)) (pe_var (i := 1) rfl (.inl rfl)))))))))))), ?_⟩
  obtain ⟨spot, rest, hp, s0, r0, sb⟩ := wd.pen
  obtain ⟨cq, cn, cl⟩ := wd.cel
  have fin : ∀ (i : Int) (H' : Hp) (spot' rest' : Int), 0 ≤ i → i < m → H' g.p = some (.lst [.ref g.c, .int spot', .int rest']) → 0 ≤ spot' → 0 ≤ rest' → spot' + ((n - 1 : Nat) : Int) ≤ 33554432 → (∀ b o, b ≠ g.p → H b = some o → H' b = some o) → Q (.int i) H' := fun i H' spot' rest' i0 i1 e1 e2 e3 e4 kp => by
    have sF : Sub F0 H' := fun b o e => kp b o (fun z => by rw [z, wd.npen] at e; cases e) (wd.sub b o e)
    refine hQ (.int i) (n - 1) (.int i) F0 H' (hP i i0 i1) (Sub.refl _) ⟨sF, wd.ntb, wd.npen, ⟨spot', rest', e1, e2, e3, e4⟩, ⟨?_, cn, cl⟩, fun p hp' => ?_⟩ (fun b o e _ nb => kp b o nb e) (fun a nw o e => ?_) (fun a o e => .inl e) (by simp only [Rep])
    · rcases cq with (q | ⟨o, q⟩) | q
      · exact .inl (.inl (kp _ _ cn q))
      · exact .inl (.inr ⟨o, kp _ _ cn q⟩)
      · exact .inr q
    · obtain ⟨ps, h1, h2, h3⟩ := wd.tab p hp'
      refine ⟨ps, kp _ _ (fun z => by rw [z, hp] at h1; cases h1) h1, h2, fun pos cv hc => ?_⟩
      obtain ⟨c, c1, c2⟩ := h3 pos cv hc
      exact ⟨c, c1, kp _ _ (fun z => by rw [z, hp] at c2; exact absurd (Option.some.inj c2) (by unfold LamX.CodeO; intro y; cases y)) c2⟩
    · by_cases z : a = g.p
      · subst z
        obtain ⟨ps, y⟩ := nw _ e1
        cases y
      · exact nw o (kp a o z e)
  have n1 : ((n - 1 : Nat) : Int) = (n : Int) - 1 := by omega
  refine ⟨.ref g.p, rfl, g.p, _, 2, _, rfl, rfl, .of hp, rfl, rest, 0, rfl, rfl, decide (0 < rest), rfl, ?_⟩
  by_cases hrest : 0 < rest
  · refine ite_t (decide_eq_true hrest) ?_
    refine ⟨.ref g.p, rfl, g.p, _, 2, _, rfl, rfl, .of hp, rfl, .inl ⟨rest, rfl, ?_⟩⟩
    refine ⟨.int rest, rfl, .int m, rfl, rest, m, rfl, rfl, ⟨hm0, hm1⟩, .ref g.p, rfl, g.p, _, 2, 2, rfl, rfl, hp, rfl, ?_⟩
    refine ⟨.int rest, rfl, .inl ⟨rest, rfl, .int m, rfl, rest, m, rfl, rfl, hm0, ?_⟩⟩
    exact fin _ _ spot (rest / m) (Int.emod_nonneg _ (by omega)) (Int.emod_lt_of_pos _ hm0) upd_same s0 (Int.ediv_nonneg r0 (by omega)) (by omega) fun b o nb e => by rw [upd_ne nb]; exact e
  · refine ite_f (fun z => hrest (of_decide_eq_true z)) ?_
    refine ⟨.ref g.p, rfl, g.p, _, 1, _, rfl, rfl, .of hp, rfl, ?_⟩
    refine ⟨.int spot, rfl, spot, 1, rfl, rfl, .ref g.p, rfl, g.p, _, 1, 1, rfl, rfl, hp, rfl, ?_⟩
    -- the pen has turned
    have hp1 : upd H g.p (.lst [.ref g.c, .int (spot + 1), .int rest]) g.p = some (.lst [.ref g.c, .int (spot + 1), .int rest]) := upd_same
    have cq1 : SqL K (upd H g.p (.lst [.ref g.c, .int (spot + 1), .int rest])) g.c (g.ns.map V.int) := by
      rw [← hK]
      rcases cq with (q | ⟨o, q⟩) | q
      · exact .inl (.inl (by rw [upd_ne cn]; exact q))
      · exact .inl (.inr ⟨o, by rw [upd_ne cn]; exact q⟩)
      · exact .inr q
    have k1 : ∀ b o, b ≠ g.p → H b = some o → upd H g.p (.lst [.ref g.c, .int (spot + 1), .int rest]) b = some o := fun b o nb e => by rw [upd_ne nb]; exact e
    refine ⟨.int spot, rfl, 13357, spot, rfl, rfl, .inl ⟨by omega, by omega⟩, _, 2069, rfl, rfl, ?_⟩
    have lens : (g.ns.map V.int).length = g.ns.length := List.length_map ..
    -- a cell is chosen
    dsimp only [gName]
    refine seq_join (t := tIfS _ _ _) (C := fun σ' H' => ∃ cv : Int, σ'[0]? = some (some (.ref g.p)) ∧ σ'[1]? = some (some (.int m)) ∧ σ'[3]? = some (some (.int spot)) ∧ σ'[4]? = some (some (.int cv)) ∧ 7 ≤ σ'.length ∧ H' g.p = some (.lst [.ref g.c, .int (spot + 1), .int rest]) ∧ SqL K H' g.c (g.ns.map V.int) ∧ (∀ b o, b ≠ g.p → H b = some o → H' b = some o))
      (fun σ2 H2 ⟨cv, i0, i1, i3, i4, il, hp2, cq2, k2⟩ => ?_) (fun N hN => ?_)
    · refine seq_join (t := tIfS _ _ _) (C := fun σ' H' => ∃ cv : Int, σ'[0]? = some (some (.ref g.p)) ∧ σ'[1]? = some (some (.int m)) ∧ σ'[3]? = some (some (.int spot)) ∧ σ'[4]? = some (some (.int cv)) ∧ 7 ≤ σ'.length ∧ H' g.p = some (.lst [.ref g.c, .int (spot + 1), .int rest]) ∧ SqL K H' g.c (g.ns.map V.int) ∧ (∀ b o, b ≠ g.p → H b = some o → H' b = some o))
        (fun σ3 H3 ⟨cv, i0, i1, i3, i4, il, hp3, cq3, k3⟩ => ?_) (fun N hN => ?_)
      · have sb2 : spot < 33554432 := by omega
        have x0 := Int.emod_nonneg cv (show (2147483549 : Int) ≠ 0 by decide)
        have x1 := Int.emod_lt_of_pos cv (show (0 : Int) < 2147483549 by decide)
        refine ⟨.int cv, i4, .inl ⟨cv, rfl, cv, 2147483549, rfl, rfl, (by decide : (0 : Int) < 2147483549), .int spot, i3, 82872, spot, rfl, rfl, .inl ⟨by decide, by decide⟩, _, _, rfl, rfl, _, 2069, rfl, rfl, _, 3, rfl, rfl, ⟨by decide, by decide, by omega⟩, .inl ⟨_, rfl, _, 2147483629, rfl, rfl, (by decide : (0 : Int) < 2147483629), ?_⟩⟩⟩
        have y0 := Int.emod_nonneg ((cv % 2147483549 + 82872 * spot + 2069) ^ (3 : Int).toNat) (show (2147483629 : Int) ≠ 0 by decide)
        have y1 := Int.emod_lt_of_pos ((cv % 2147483549 + 82872 * spot + 2069) ^ (3 : Int).toNat) (show (0 : Int) < 2147483629 by decide)
        dsimp only [gName]
        generalize (cv % 2147483549 + 82872 * spot + 2069) ^ (3 : Int).toNat % 2147483629 = M1 at y0 y1
        have b1 : M1 * (2 * spot + 438) ≤ 2147483629 * (67108864 + 438) := Int.mul_le_mul (by omega) (by omega) (by omega) (by omega)
        have b2 : 2069 * spot ≤ 2069 * 33554432 := by omega
        have b3 : 2069 * spot * spot ≤ 2069 * 33554432 * 33554432 := Int.mul_le_mul b2 (by omega) s0 (by omega)
        have b4 : 0 ≤ M1 * (2 * spot + 438) := Int.mul_nonneg y0 (by omega)
        have b5 : 0 ≤ 2069 * spot * spot := Int.mul_nonneg (by omega) s0
        have l6 : (σ3.set 6 (some (.int M1)))[6]? = some (some (.int M1)) := List.getElem?_set_self (by omega)
        have l3 : (σ3.set 6 (some (.int M1)))[3]? = some (some (.int spot)) := by rw [List.getElem?_set_ne (by decide)]; exact i3
        have l1 : (σ3.set 6 (some (.int M1)))[1]? = some (some (.int m)) := by rw [List.getElem?_set_ne (by decide)]; exact i1
        refine ⟨.int M1, l6, .int spot, l3, 2, spot, rfl, rfl, .inl ⟨by decide, by decide⟩, _, 438, rfl, rfl, M1, _, rfl, rfl, .inl ⟨by omega, by omega⟩, .int spot, l3, 2069, spot, rfl, rfl, .inl ⟨by decide, by decide⟩, .int spot, l3, _, spot, rfl, rfl, .inr ⟨by omega, by omega⟩, _, _, rfl, rfl, _, 13357, rfl, rfl, _, 5, rfl, rfl, ⟨by decide, by decide, by omega⟩, .inl ⟨_, rfl, _, 2147483563, rfl, rfl, (by decide : (0 : Int) < 2147483563), ?_⟩⟩
        dsimp only [gName]
        have z0 := Int.emod_nonneg ((M1 * (2 * spot + 438) + 2069 * spot * spot + 13357) ^ (5 : Int).toNat) (show (2147483563 : Int) ≠ 0 by decide)
        generalize (M1 * (2 * spot + 438) + 2069 * spot * spot + 13357) ^ (5 : Int).toNat % 2147483563 = M2 at z0
        have r6 : ((σ3.set 6 (some (.int M1))).set 6 (some (.int M2)))[6]? = some (some (.int M2)) := List.getElem?_set_self (by rw [List.length_set]; omega)
        have r1 : ((σ3.set 6 (some (.int M1))).set 6 (some (.int M2)))[1]? = some (some (.int m)) := by rw [List.getElem?_set_ne (by decide)]; exact l1
        refine ⟨.int M2, r6, M2, 32, rfl, rfl, ⟨by decide, by decide⟩, .inl ⟨_, rfl, .int m, r1, _, m, rfl, rfl, hm0, ?_⟩⟩
        exact fin _ _ (spot + 1) rest (Int.emod_nonneg _ (by omega)) (Int.emod_lt_of_pos _ hm0) hp3 (by omega) r0 (by omega) k3
      · refine ⟨.int spot, i3, .ref g.p, i0, g.p, _, 0, _, rfl, rfl, .of hp2, rfl, g.c, _, rfl, .inl cq2, spot, _, rfl, rfl, decide (spot < ((g.ns.map V.int).length : Int)), rfl, ?_⟩
        have again : N σ2 H2 := hN _ _ ⟨cv, i0, i1, i3, i4, il, hp2, cq2, k2⟩
        by_cases hlt : spot < ((g.ns.map V.int).length : Int)
        · refine ite_t (decide_eq_true hlt) ?_
          refine ⟨.int cv, i4, cv, rfl, 10, 18, rfl, rfl, ⟨by decide, by decide, by decide⟩, _, _, rfl, rfl, _, rfl, ?_⟩
          by_cases hge : (10 : Int) ^ (18 : Int).toNat ≤ (if cv < 0 then -cv else cv)
          · refine ite_t (decide_eq_true hge) ?_
            refine ⟨.int cv, i4, cv, rfl, 10, 18, rfl, rfl, ⟨by decide, by decide, by decide⟩, _, _, rfl, rfl, 2, _, rfl, rfl, .inl ⟨by decide, by decide⟩, .int cv, i4, cv, 0, rfl, rfl, .inr ⟨decide (cv < 0), rfl, _, _, rfl, rfl, ?_⟩⟩
            dsimp only [gName]
            have G0 : 0 ≤ 2 * ((if cv < 0 then -cv else cv) - (10 : Int) ^ (18 : Int).toNat) + (if decide (cv < 0) = true then 1 else 0) := by
              have : (0 : Int) ≤ (if decide (cv < 0) = true then 1 else 0) := by split <;> omega
              omega
            generalize 2 * ((if cv < 0 then -cv else cv) - (10 : Int) ^ (18 : Int).toNat) + (if decide (cv < 0) = true then 1 else 0) = G at G0
            have j5 : (σ2.set 5 (some (.int G)))[5]? = some (some (.int G)) := List.getElem?_set_self (by omega)
            have j1 : (σ2.set 5 (some (.int G)))[1]? = some (some (.int m)) := by rw [List.getElem?_set_ne (by decide)]; exact i1
            have j0 : (σ2.set 5 (some (.int G)))[0]? = some (some (.ref g.p)) := by rw [List.getElem?_set_ne (by decide)]; exact i0
            refine ⟨.int G, j5, .inl ⟨G, rfl, .int m, j1, G, m, rfl, rfl, ⟨hm0, hm1⟩, .ref g.p, j0, g.p, _, 2, 2, rfl, rfl, hp2, rfl, ?_⟩⟩
            refine ⟨.int G, j5, .inl ⟨G, rfl, .int m, j1, G, m, rfl, rfl, hm0, ?_⟩⟩
            exact fin _ _ (spot + 1) (G / m) (Int.emod_nonneg _ (by omega)) (Int.emod_lt_of_pos _ hm0) upd_same (by omega) (Int.ediv_nonneg G0 (by omega)) (by omega) fun b o nb e => by rw [upd_ne nb]; exact k2 b o nb e
          · exact ite_f (fun z => hge (of_decide_eq_true z)) again
        · exact ite_f (fun z => hlt (of_decide_eq_true z)) again
    · refine ⟨.ref g.p, rfl, g.p, _, 0, _, rfl, rfl, .of hp1, rfl, by decide, fun q hq => ?_⟩
      have k2 : ∀ b o, b ≠ g.p → H b = some o → upd (upd H g.p (.lst [.ref g.c, .int (spot + 1), .int rest])) q (.lst []) b = some o := fun b o nb e => by
        have y := k1 b o nb e
        rw [upd_ne (ne_of_none y hq)]; exact y
      have hp2 : upd (upd H g.p (.lst [.ref g.c, .int (spot + 1), .int rest])) q (.lst []) g.p = some (.lst [.ref g.c, .int (spot + 1), .int rest]) := by
        rw [upd_ne (ne_of_none hp1 hq)]; exact hp1
      have cq2 : SqL K (upd (upd H g.p (.lst [.ref g.c, .int (spot + 1), .int rest])) q (.lst [])) g.c (g.ns.map V.int) := by
        rcases cq1 with (z | ⟨o, z⟩) | z
        · exact .inl (.inl (by rw [upd_ne (ne_of_none z hq)]; exact z))
        · exact .inl (.inr ⟨o, by rw [upd_ne (ne_of_none z hq)]; exact z⟩)
        · exact .inr z
      refine ⟨.list (g.ns.map PyData.int), .list [], .lst cq2 (dpall_ints _), .lst (.of upd_same) .nil, shaped_ints _, shaped_ints [], _, rfl, ?_⟩
      by_cases hne : g.ns = []
      · refine ite_f (by rw [hne]; decide) ?_
        exact hN _ _ ⟨_, rfl, rfl, rfl, rfl, Nat.le_refl 7, hp2, cq2, k2⟩
      · refine ite_t (by cases q2 : g.ns with | nil => exact absurd q2 hne | cons a l => rfl) ?_
        have hlen : 0 < ((g.ns.map V.int).length : Int) := by
          rw [lens]
          cases q2 : g.ns with
          | nil => exact absurd q2 hne
          | cons a l => simp
        have hb := Int.emod_nonneg spot (show ((g.ns.map V.int).length : Int) ≠ 0 by omega)
        have hb2 := Int.emod_lt_of_pos spot hlen
        have hj : (spot % ((g.ns.map V.int).length : Int)).toNat < g.ns.length := by rw [← lens]; omega
        have at_ : L2.atI (g.ns.map V.int) (spot % ((g.ns.map V.int).length : Int)) = some (.int (g.ns[(spot % ((g.ns.map V.int).length : Int)).toNat])) := by
          unfold L2.atI ixN
          rw [if_pos hb, if_pos hb2]
          show (g.ns.map V.int)[_]? = _
          rw [List.getElem?_map, List.getElem?_eq_getElem hj]
          rfl
        refine ⟨.ref g.p, rfl, g.p, _, 0, _, rfl, rfl, .of hp2, rfl, .int spot, rfl, .inl ⟨spot, rfl, .ref g.p, rfl, g.p, _, 0, _, rfl, rfl, .of hp2, rfl, g.c, _, rfl, .inl cq2, spot, _, rfl, rfl, hlen, g.c, _, _, _, rfl, rfl, cq2, at_, ?_⟩⟩
        exact hN _ _ ⟨_, rfl, rfl, rfl, rfl, Nat.le_refl 7, hp2, cq2, k2⟩
end
end Dr


set_option maxHeartbeats 3900000
namespace Dr
open PySem
open PySem.Spec
open PyProof.Rows
open L2
open Dl
open Sp
/-- the pen is made: its cells at c, the pen at p -/
def spPen (K : PySem.W.Frag) : L2.Sp := fun vs H Q _ => ∃ (a : Addr) (ns : List Int), vs = [.ref a] ∧ SqL K H a (ns.map V.int) ∧ ns.length ≤ 63 ∧ ∀ (c p : Addr) (H' : Hp), c ≠ p → H c = none → H p = none → H' c = some (.lst (ns.map V.int)) → H' p = some (.lst [.ref c, .int 0, .int 0]) → (∀ b o, H b = some o → H' b = some o) → Q (.ref p) H'
theorem cut63 (xs : List V) (h : xs.length ≤ 63) : cutV xs none (some 63) = xs := by
  unfold cutV
  rw [HT.sIx_none, show (some (63 : Int)) = some ((63 : Nat) : Int) from rfl, HT.sIx_nat]
  simp only [List.drop_zero, Nat.sub_zero]
  exact List.take_of_length_le (by omega)
section
variable {gb : Bool} {P : Program} {w : World} {K : PySem.W.Frag} {mg : Str → Option Value} {base : Heap} {f : Addr} {fd : FuncData} {g : Gr}
theorem ok_pen (F : FunD K "_law_pen" "_law_pen" (defArgs Hd.s__law_pen) (defBody Hd.s__law_pen) (defScope Hd.s__law_pen) [] [] f fd) (b_int : mg "int" = none) : Dl.FnR gb P w K mg base 1 f fd ["script"] (spPen K) := by
  have S : FnScope ["script", "cell"] ["script"] (defScope Hd.s__law_pen) := ⟨rfl, rfl, rfl, by decide +kernel, rfl, by decide +kernel, by decide +kernel⟩
  obtain ⟨oc, od, dV, kV, doc, pm, an, cdv, ct, osl, rfl, lk, hcd, _, _⟩ := F.ex
  refine ⟨fun vs H Q E h => ?_, fun A outer s H args us vs Q E hg hr e0 b r h => ?_⟩
  · obtain ⟨a, ns, rfl, _⟩ := h
    rfl
  obtain ⟨a, ns, rfl, hS, hl, hQ⟩ := h
  refine LamX.run_ofS lk hcd S hr e0 b r rfl fun hr' => ⟨_, pss_one (ps_ret (pe_lst (pa_cons (pe_lc rfl S.nd (pi_list (pe_slice sl_list (pe_var (i := 0) rfl (.inl rfl)) po_none (po_some pe_int))) (blkOk_by (own := [("cell", 1)]) (by rfl)) (fun s H C cl fp => pg_name (i := 1) S.nd rfl (Or.inl rfl) (.inr rfl)) (fun s H C cl fp => pts_nil)
    (fun s H C cl fp => pe_callTy call_int1 rfl b_int Boot.«int» (pa_cons (pe_var (i := 1) rfl (.inl rfl)) pa_nil))) (pa_cons pe_int (pa_cons pe_int pa_nil))))), ?_⟩
  have lens : (ns.map V.int).length = ns.length := List.length_map ..
  refine ⟨.ref a, rfl, 63, rfl, a, _, rfl, hS, fun q hq => ?_⟩
  rw [cut63 _ (by rw [lens]; exact hl)]
  have hSq : SqL K (upd H q (.lst (ns.map V.int))) q (ns.map V.int) := .of upd_same
  refine ⟨q, rfl, ⟨_, hSq⟩, fun dd hd => ?_⟩
  have ndq : dd ≠ q := fun z => by rw [z, upd_same] at hd; cases hd
  refine lc_it (w := walk_list (K := K) (a := q) (xs := ns.map V.int)) (Pv := fun i H' => H' = upd (upd H q (.lst (ns.map V.int))) dd (.lst ((ns.map V.int).take i))) rfl (fun i H' _ e => ?_) (fun i x H' H'' hi e y => ?_) (fun H' e => ?_)
  · subst e
    exact .of (by rw [upd_ne (Ne.symm ndq), upd_same])
  · subst e
    obtain ⟨rfl, hx⟩ := y
    obtain ⟨z, hz⟩ : ∃ z : Int, x = .int z := by
      rw [List.getElem?_map] at hx
      cases q5 : ns[i]? with
      | none => rw [q5] at hx; cases hx
      | some z => rw [q5] at hx; exact ⟨z, (Option.some.inj hx).symm⟩
    subst hz
    refine ⟨rfl, ?_⟩
    refine ⟨.int z, rfl, .inl ⟨z, rfl, (ns.map V.int).take i, upd_same, ?_, ?_⟩⟩
    · rw [sizeLine_eq, List.length_take]; omega
    · have e2 : (ns.map V.int).take (i + 1) = (ns.map V.int).take i ++ [V.int z] := by
        rw [List.take_succ, hx]; rfl
      rw [e2]
      funext b
      by_cases hb : b = dd
      · rw [hb, upd_same, upd_same]
      · rw [upd_ne hb, upd_ne hb, upd_ne hb]
  · subst e
    rw [List.take_length]
    refine ⟨(by rw [sizeLine_eq]; decide : 3 ≤ sizeLine), fun p hp => ?_⟩
    have npd : p ≠ dd := fun z => by rw [z, upd_same] at hp; cases hp
    have npq : p ≠ q := fun z => by rw [upd_ne npd, z, upd_same] at hp; cases hp
    refine hQ dd p _ (Ne.symm npd) (by rw [upd_ne ndq] at hd; exact hd) (by rw [upd_ne npd, upd_ne npq] at hp; exact hp) (by rw [upd_ne (Ne.symm npd), upd_same]) upd_same fun b o e => ?_
    have b1 : b ≠ q := ne_of_none e hq
    have b2 : b ≠ dd := fun z => by rw [upd_ne ndq, ← z, e] at hd; cases hd
    have b3 : b ≠ p := fun z => by rw [upd_ne npd, upd_ne npq, ← z, e] at hp; cases hp
    rw [upd_ne b3, upd_ne b2, upd_ne b1]; exact e
end
end Dr


set_option maxHeartbeats 3900000
namespace Pl
open PySem
open PySem.Spec
open PyProof.Rows
open L2
open Dl
open Sp
open Rd
theorem heard_clash {K : PySem.W.Frag} {mg : Str → Option Value} {tabs : List (Addr × Str)} {pa ca : Addr} {ns : List Int} {T : DAsk} {n : Nat} {P : D → Nat → Prop} {p : Str} (hT : ∀ A B, B (bad "Clashing" p) n → T n A B) (hP : P (.tup [.str "clash", .str p]) n) :
    hd__law_heard (Gq K mg tabs pa ca ns) T n P := by
  intro f
  unfold t__law_heard
  simp only [dsSeq, dsIf, dsRet, dsRetN, dsDrop, dsNext, dsRaise, dsSet, dsSetL, dsAsg, dsFor, dAnd, dOr, dNot, dIf, dCB, dCall, dCons, dNil, dVar, dC, dOp, dTest, dTup, dLst, dSz, dChain, dtAnd, dtOr, dtNot, dItems, dRng, gsTup, gsCons, gsNil, gVar, dApp, slots, DS.set, List.map, List.length, List.cons_append, List.nil_append, List.append_nil, List.getElem?_cons_zero, List.getElem?_cons_succ, List.set_cons_zero, List.set_cons_succ, List.replicate, dsTry, dAsk]
  refine ⟨trivial, hT _ _ ⟨⟨_, rfl, rfl⟩, ?_⟩⟩
  simp only [dsSeq, dsIf, dsRet, dsRetN, dsDrop, dsNext, dsRaise, dsSet, dsSetL, dsAsg, dsFor, dAnd, dOr, dNot, dIf, dCB, dCall, dCons, dNil, dVar, dC, dOp, dTest, dTup, dLst, dSz, dChain, dtAnd, dtOr, dtNot, dItems, dRng, gsTup, gsCons, gsNil, gVar, dApp, slots, DS.set, List.map, List.length, List.cons_append, List.nil_append, List.append_nil, List.getElem?_cons_zero, List.getElem?_cons_succ, List.set_cons_zero, List.set_cons_succ, List.replicate, bad]
  refine ⟨_, rfl, false, rfl, ?_⟩
  simp only [Bool.false_eq_true, if_false]
  refine ⟨_, rfl, false, rfl, ?_⟩
  simp only [Bool.false_eq_true, if_false]
  refine ⟨_, rfl, false, rfl, ?_⟩
  simp only [Bool.false_eq_true, if_false]
  refine ⟨_, rfl, false, rfl, ?_⟩
  simp only [Bool.false_eq_true, if_false]
  refine ⟨_, rfl, false, rfl, ?_⟩
  simp only [Bool.false_eq_true, if_false]
  refine ⟨_, rfl, _, rfl, _, rfl, _, rfl, _, rfl, small 5 (by decide), _, rfl, _, rfl, small 2 (by decide), _, rfl, ?_⟩
  simp only [dMt, dFld, dsSeq, dsIf, dsRet, dsRetN, dsDrop, dsNext, dsRaise, dsSet, dsSetL, dsAsg, dsFor, dAnd, dOr, dNot, dIf, dCB, dCall, dCons, dNil, dVar, dC, dOp, dTest, dTup, dLst, dSz, dChain, dtAnd, dtOr, dtNot, dItems, dRng, gsTup, gsCons, gsNil, gVar, dApp, slots, DS.set, List.map, List.length, List.cons_append, List.nil_append, List.append_nil, List.getElem?_cons_zero, List.getElem?_cons_succ, List.set_cons_zero, List.set_cons_succ, List.replicate]
  refine ⟨rfl, _, rfl, .bl false, rfl, false, rfl, ?_⟩
  simp only [Bool.false_eq_true, if_false]
  refine ⟨small 7 (by decide), rfl, _, rfl, _, rfl, _, rfl, small 2 (by decide), hP⟩
/-! ### the closed checks -/
def comb : List Int := [0, 1, 2, 5]
def dueD (l f ch c : Int) : List D := (pairsI c l f ch).map cpD
def reprOk (d : D) : Bool := match reprD [d] with
  | some (.str s) => (match neO (.str s) (.str s) with
    | some (.bl false) => true
    | _ => false)
  | _ => false
theorem reprOk_ok {d : D} (h : reprOk d = true) : ∃ s, reprD [d] = some (.str s) ∧ neO (.str s) (.str s) = some (.bl false) := by
  unfold reprOk at h
  split at h
  · split at h
    · exact ⟨_, by assumption, by assumption⟩
    · cases h
  · cases h
def newLeast (c : Int) (due : List D) : Option D := (ixD (.lst due) (.int (-1))).bind fun d => addD (.tup [.int c]) d
/-- least behind the copies up to c -/
def stepL (l f ch c : Int) (d : D) : D := match dueD l f ch c, d with
  | [], d => d
  | _, .non => (newLeast c (dueD l f ch c)).getD .non
  | _, d => d
def chk1 (l f ch c : Int) : Bool := reprOk (.lst [.tup (dueD l f ch c), .tup (dueD l f ch c)]) && (match neO (.lst (dueD l f ch c)) (.lst []) with
  | some (.bl b) => b == !(dueD l f ch c).isEmpty
  | _ => false) && ((dueD l f ch c).isEmpty || (newLeast c (dueD l f ch c)).isSome) && decide ((dueD l f ch c).length ≤ 25)
def leastL (l f ch : Int) : D := [1, 2, 3, 4, 5].foldl (fun d c => stepL l f ch c d) .non
def chk2 (l f ch : Int) : Bool := match leastL l f ch with
  | .non => decide (2 * f + ch + l + 1 > 5)
  | .tup [.int a, .int b, .int d] => decide (2 * f + ch + l + 1 ≤ 5) && decide (a = 2 * f + ch + l + 1) && decide (b = 2 * f + ch + l + 1 - f) && decide (d = 2 * f + ch + l + 1 - f) && reprOk (.lst [.tup [.int a, .int b, .int d], .tup [.int a, .int b, .int d]])
  | _ => false
theorem all_ok : (comb.all fun l => comb.all fun f => comb.all fun ch => chk2 l f ch && [1, 2, 3, 4, 5].all fun c => chk1 l f ch c) = true := by decide +kernel
theorem checks {l f ch : Int} (h1 : l ∈ comb) (h2 : f ∈ comb) (h3 : ch ∈ comb) : chk2 l f ch = true ∧ ∀ c ∈ ([1, 2, 3, 4, 5] : List Int), chk1 l f ch c = true := by
  have h := List.all_eq_true.mp (List.all_eq_true.mp (List.all_eq_true.mp all_ok l h1) f h2) ch h3
  obtain ⟨a, b⟩ := Bool.and_eq_true_iff.mp h
  exact ⟨a, fun c hc => List.all_eq_true.mp b c hc⟩
theorem comb_le {x : Int} (h : x ∈ comb) : 0 ≤ x ∧ x ≤ 5 := by
  simp [comb] at h
  omega
theorem pick5 {d : D} (h : d ∈ [D.int 0, .int 0, .int 1, .int 2, .int 5] ∨ d ∈ [D.int 0, .int 1, .int 1, .int 2, .int 5]) : ∃ x : Int, d = .int x ∧ x ∈ comb := by
  simp at h
  rcases h with (rfl | rfl | rfl | rfl) | (rfl | rfl | rfl | rfl) <;> exact ⟨_, rfl, by decide⟩
theorem call_ok {F : List D → Option (Except X D)} {ds : List D} {d : D} {n : Nat} {P : D → Nat → Prop} {R : X → Nat → Prop} (e : F ds = some (.ok d)) (h : P d n) : spX F ds n P R := by
  unfold spX runE; rw [e]; exact h
/-- the pairs that are due, looked for by the law -/
theorem law_due {g : Gr} {l f ch c : Int} (c1 : 1 ≤ c) (c2 : c ≤ 5) (l1 : 0 ≤ l) (l2 : l ≤ 5) (f1 : 0 ≤ f) (f2 : f ≤ 5) (ch1 : 0 ≤ ch) (ch2 : ch ≤ 5) {s0 s1 s2 s6 s9 s10 s11 : Sl} {n : Nat} {E : DZ}
    (h : ∀ s9 s10 s11, E.nx ⟨[s0, s1, s2, .fz (.int l), .fz (.int f), .fz (.int ch), s6, .fz (.int c), .ol (dueD l f ch c), s9, s10, s11], n⟩) :
    dsFor (dRng rangeD2 (dCons (dC (.int 1)) (dCons (dOp addD (dVar 7) (dC (.int 1))) (dNil)))) (gVar 9) (t_law_2 g) ⟨[s0, s1, s2, .fz (.int l), .fz (.int f), .fz (.int ch), s6, .fz (.int c), .ol [], s9, s10, s11], n⟩ E := by
  simp only [dsSeq, dsIf, dsRet, dsRetN, dsDrop, dsNext, dsRaise, dsSet, dsSetL, dsAsg, dsFor, dAnd, dOr, dNot, dIf, dCB, dCall, dCons, dNil, dVar, dC, dOp, dTest, dTup, dLst, dSz, dChain, dtAnd, dtOr, dtNot, dItems, dRng, gsTup, gsCons, gsNil, gVar, dApp, slots, DS.set, List.map, List.length, List.cons_append, List.nil_append, List.append_nil, List.getElem?_cons_zero, List.getElem?_cons_succ, List.set_cons_zero, List.set_cons_succ, List.replicate]
  refine ⟨_, rfl, _, range_sub c c1 c2, ?_⟩
  refine forL_ind (fun r st => ∃ (dn rs : List Nat) (s9 s10 s11 : Sl) (acc : List D), dn ++ rs = List.range c.toNat ∧ r = rs.map (fun (k : Nat) => D.int (1 + (k : Int))) ∧ acc = (dn.map (rowI c l f ch)).flatten.map cpD ∧ acc.length ≤ 5 * dn.length ∧ st = ⟨[s0, s1, s2, .fz (.int l), .fz (.int f), .fz (.int ch), s6, .fz (.int c), .ol acc, s9, s10, s11], n⟩) ?_ ?_ _ _ ⟨[], List.range c.toNat, s9, s10, s11, [], rfl, rfl, rfl, by simp, rfl⟩
  · rintro st ⟨dn, rs, s9, s10, s11, acc, e1, e2, e3, e4, rfl⟩
    have : rs = [] := by
      cases rs with
      | nil => rfl
      | cons a b => simp at e2
    subst this
    rw [List.append_nil] at e1
    subst e1 e3
    exact h _ _ _
  · rintro d r st N ⟨dn, rs, s9, s10, s11, acc, e1, e2, e3, e4, rfl⟩ hN
    cases rs with
    | nil => cases e2
    | cons i rs =>
      simp only [List.map_cons, List.cons.injEq] at e2
      obtain ⟨rfl, rfl⟩ := e2
      have hi : i < c.toNat := by
        have : i ∈ List.range c.toNat := by rw [← e1]; simp
        exact List.mem_range.mp this
      have hdn : dn.length + 1 ≤ 5 := by
        have := congrArg List.length e1
        simp at this
        omega
      simp only [t_law_2, dsSeq, dsIf, dsRet, dsRetN, dsDrop, dsNext, dsRaise, dsSet, dsSetL, dsAsg, dsFor, dAnd, dOr, dNot, dIf, dCB, dCall, dCons, dNil, dVar, dC, dOp, dTest, dTup, dLst, dSz, dChain, dtAnd, dtOr, dtNot, dItems, dRng, gsTup, gsCons, gsNil, gVar, dApp, slots, DS.set, List.map, List.length, List.cons_append, List.nil_append, List.append_nil, List.getElem?_cons_zero, List.getElem?_cons_succ, List.set_cons_zero, List.set_cons_succ, List.replicate]
      refine ⟨_, rfl, _, range_sub c c1 c2, ?_⟩
      refine forL_ind (fun r st => ∃ (dn2 rs2 : List Nat) (s10 s11 : Sl) (acc2 : List D), dn2 ++ rs2 = List.range c.toNat ∧ r = rs2.map (fun (k : Nat) => D.int (1 + (k : Int))) ∧ acc2 = acc ++ (dn2.filterMap fun (j : Nat) => if endsI c (1 + i) (1 + j) l f && bearsI c (1 + i) (1 + j) l c (1 + i) (1 + j) l ch then some ((1 + (i : Int)), (1 + (j : Int))) else none).map cpD ∧ acc2.length ≤ 5 * dn.length + dn2.length ∧
        st = ⟨[s0, s1, s2, .fz (.int l), .fz (.int f), .fz (.int ch), s6, .fz (.int c), .ol acc2, .fz (.int (1 + (i : Int))), s10, s11], n⟩) ?_ ?_ _ _ ⟨[], List.range c.toNat, s10, s11, acc, rfl, rfl, by simp, by simpa using e4, rfl⟩
      · rintro st ⟨dn2, rs2, s10, s11, acc2, g1, g2, g3, g4, rfl⟩
        have : rs2 = [] := by
          cases rs2 with
          | nil => rfl
          | cons a b => simp at g2
        subst this
        rw [List.append_nil] at g1
        subst g1
        refine hN _ ⟨dn ++ [i], rs, _, s10, s11, acc2, by rw [← e1]; simp, rfl, ?_, ?_, rfl⟩
        · rw [g3, e3, List.map_append, List.flatten_append, List.map_append]
          simp [rowI]
        · simp at g4 ⊢
          omega
      · rintro d r st N2 ⟨dn2, rs2, s10, s11, acc2, g1, g2, g3, g4, rfl⟩ hN2
        cases rs2 with
        | nil => cases g2
        | cons j rs2 =>
          simp only [List.map_cons, List.cons.injEq] at g2
          obtain ⟨rfl, rfl⟩ := g2
          have hj : j < c.toNat := by
            have : j ∈ List.range c.toNat := by rw [← g1]; simp
            exact List.mem_range.mp this
          have hdn2 : dn2.length + 1 ≤ 5 := by
            have := congrArg List.length g1
            simp at this
            omega
          have g4' : acc2.length ≤ 5 * (dn.length) + (dn2.length + 1) := by omega
          simp only [t_law_1, dsSeq, dsIf, dsRet, dsRetN, dsDrop, dsNext, dsRaise, dsSet, dsSetL, dsAsg, dsFor, dAnd, dOr, dNot, dIf, dCB, dCall, dCons, dNil, dVar, dC, dOp, dTest, dTup, dLst, dSz, dChain, dtAnd, dtOr, dtNot, dItems, dRng, gsTup, gsCons, gsNil, gVar, dApp, slots, DS.set, List.map, List.length, List.cons_append, List.nil_append, List.append_nil, List.getElem?_cons_zero, List.getElem?_cons_succ, List.set_cons_zero, List.set_cons_succ, List.replicate]
          refine ⟨small 4 (by decide), bears_ok c1 c2 (by omega) (by omega) (by omega) (by omega) l1 l2 ch1 ch2 ⟨_, rfl, ?_⟩⟩
          cases hb : bearsI c (1 + i) (1 + j) l c (1 + i) (1 + j) l ch with
          | false =>
            simp only [Bool.false_eq_true, if_false]
            refine hN2 _ ⟨dn2 ++ [j], rs2, _, _, acc2, by rw [← g1]; simp, rfl, ?_, by simpa using g4', rfl⟩
            rw [g3, List.filterMap_append]
            simp [hb]
          | true =>
            simp only [if_true]
            refine ends_ok c1 c2 (by omega) (by omega) (by omega) (by omega) l1 l2 f1 f2 ⟨_, rfl, ?_⟩
            cases he : endsI c (1 + i) (1 + j) l f with
            | false =>
              simp only [Bool.false_eq_true, if_false]
              refine hN2 _ ⟨dn2 ++ [j], rs2, _, _, acc2, by rw [← g1]; simp, rfl, ?_, by simpa using g4', rfl⟩
              rw [g3, List.filterMap_append]
              simp [he, hb]
            | true =>
              simp only [if_true]
              refine ⟨⟨_, rfl⟩, small 2 (by decide), _, rfl, ?_, ?_⟩
              · rw [sizeLine_eq]; omega
              · refine hN2 _ ⟨dn2 ++ [j], rs2, _, _, acc2 ++ [cpD (1 + (i : Int), 1 + (j : Int))], by rw [← g1]; simp, rfl, ?_, by simp; omega, rfl⟩
                rw [g3, List.filterMap_append]
                simp [he, hb]
theorem pairs_ok {c l f ch : Int} (c1 : 1 ≤ c) (c2 : c ≤ 5) (l1 : 0 ≤ l) (l2 : l ≤ 5) (f1 : 0 ≤ f) (f2 : f ≤ 5) (ch1 : 0 ≤ ch) (ch2 : ch ≤ 5) {n : Nat} {P : D → Nat → Prop} {R : X → Nat → Prop} (h : P (.tup (dueD l f ch c)) n) : sp_plain_pairs [.int c, .int l, .int f, .int ch] n P R := by
  show runE (bindE (needW "copies" (.int c) 1 5) fun _ => bindE (needW "liars" (.int l) 0 5) fun _ => bindE (needW "falls" (.int f) 0 5) fun _ => bindE (needW "changes" (.int ch) 0 5) fun _ => some (.ok (.tup ((pairsI c l f ch).map cpD)))) (fun d => P d n) (fun x => R x n)
  rw [needW_ok c1 c2, needW_ok l1 l2, needW_ok f1 f2, needW_ok ch1 ch2]
  exact h
end Pl

set_option maxHeartbeats 3900000
namespace Pl
open PySem
open PySem.Spec
open PyProof.Rows
open L2
open Dl
open Sp
open Rd
theorem stepL_nil {l f ch c : Int} {d : D} (h : dueD l f ch c = []) : stepL l f ch c d = d := by
  unfold stepL; rw [h]
theorem stepL_non {l f ch c : Int} {d : D} (h : dueD l f ch c ≠ []) (e : newLeast c (dueD l f ch c) = some d) : stepL l f ch c .non = d := by
  unfold stepL
  cases q : dueD l f ch c with
  | nil => exact absurd q h
  | cons a b => rw [q] at e; simp [e]
theorem stepL_old {l f ch c : Int} {d : D} (h : isN d = false) : stepL l f ch c d = d := by
  unfold stepL
  cases q : dueD l f ch c with
  | nil => rfl
  | cons a b => cases d <;> first | rfl | cases h
def neF (a b : D) : Bool := match neO a b with
  | some (.bl false) => true
  | _ => false
theorem neF_ok {a b : D} (h : neF a b = true) : neO a b = some (.bl false) := by
  unfold neF at h
  split at h
  · assumption
  · cases h
/-- one number of copies -/
theorem law_copies {g : Gr} {l f ch c : Int} (h1 : l ∈ comb) (h2 : f ∈ comb) (h3 : ch ∈ comb) (hc : c ∈ ([1, 2, 3, 4, 5] : List Int)) {s0 s1 s2 s8 s9 s10 s11 : Sl} {least : D} {n : Nat} {E : DZ}
    (h : ∀ s8 s9 s10 s11, E.nx ⟨[s0, s1, s2, .fz (.int l), .fz (.int f), .fz (.int ch), .fz (stepL l f ch c least), .fz (.int c), s8, s9, s10, s11], n⟩) :
    t_law_3 g ⟨[s0, s1, s2, .fz (.int l), .fz (.int f), .fz (.int ch), .fz least, .fz (.int c), s8, s9, s10, s11], n⟩ E := by
  obtain ⟨_, ck⟩ := checks h1 h2 h3
  have ck := ck c hc
  obtain ⟨l1, l2⟩ := comb_le h1
  obtain ⟨f1, f2⟩ := comb_le h2
  obtain ⟨ch1, ch2⟩ := comb_le h3
  have c1 : 1 ≤ c ∧ c ≤ 5 := by simp at hc; omega
  unfold chk1 at ck
  simp only [Bool.and_eq_true] at ck
  obtain ⟨⟨⟨k1, k2⟩, k3⟩, k4⟩ := ck
  obtain ⟨txt, r1, r2⟩ := reprOk_ok k1
  unfold t_law_3
  refine ⟨small 0 (by decide), law_due c1.1 c1.2 l1 l2 f1 f2 ch1 ch2 fun s9 s10 s11 => ?_⟩
  simp only [dsSeq, dsIf, dsRet, dsRetN, dsDrop, dsNext, dsRaise, dsSet, dsSetL, dsAsg, dsFor, dAnd, dOr, dNot, dIf, dCB, dCall, dCons, dNil, dVar, dC, dOp, dTest, dTup, dLst, dSz, dChain, dtAnd, dtOr, dtNot, dItems, dRng, gsTup, gsCons, gsNil, gVar, dApp, slots, DS.set, List.map, List.length, List.cons_append, List.nil_append, List.append_nil, List.getElem?_cons_zero, List.getElem?_cons_succ, List.set_cons_zero, List.set_cons_succ, List.replicate, dCallK, pick]
  have c5 := c1.1
  have c6 := c1.2
  refine pairs_ok c5 c6 l1 l2 f1 f2 ch1 ch2 ⟨trivial, trivial, pairs_ok c5 c6 l1 l2 f1 f2 ch1 ch2 ⟨small 2 (by decide), _, r1, _, rfl, small 1 (by decide), _, (show mulD (.lst [.tup (dueD l f ch c)]) (.int 2) = some (.lst [.tup (dueD l f ch c), .tup (dueD l f ch c)]) from rfl), _, r1, _, r2, false, rfl, ?_⟩⟩
  simp only [Bool.false_eq_true, if_false]
  refine ⟨small 0 (by decide), ?_⟩
  by_cases hd : dueD l f ch c = []
  · rw [hd] at k2 ⊢
    have e1 : neO (.lst []) (.lst []) = some (.bl false) := by rfl
    refine ⟨_, e1, false, rfl, ?_⟩
    simp only [Bool.false_eq_true, if_false]
    have hh := h (.fz (.lst [])) s9 s10 s11
    rw [stepL_nil hd] at hh
    exact hh
  · have e1 : neO (.lst (dueD l f ch c)) (.lst []) = some (.bl true) := by
      split at k2
      · rename_i b e
        rw [e]
        cases q : dueD l f ch c with
        | nil => exact absurd q hd
        | cons x y => rw [q] at k2; simp at k2; rw [k2]
      · cases k2
    refine ⟨_, e1, true, rfl, ?_⟩
    simp only [if_true]
    refine ⟨_, rfl, isN least, rfl, ?_⟩
    cases hl : isN least with
    | true =>
      have hl2 : least = .non := by cases least <;> first | rfl | cases hl
      subst hl2
      simp only [if_true, dNeg, dsSeq, dsIf, dsRet, dsRetN, dsDrop, dsNext, dsRaise, dsSet, dsSetL, dsAsg, dsFor, dAnd, dOr, dNot, dIf, dCB, dCall, dCons, dNil, dVar, dC, dOp, dTest, dTup, dLst, dSz, dChain, dtAnd, dtOr, dtNot, dItems, dRng, gsTup, gsCons, gsNil, gVar, dApp, slots, DS.set, List.map, List.length, List.cons_append, List.nil_append, List.append_nil, List.getElem?_cons_zero, List.getElem?_cons_succ, List.set_cons_zero, List.set_cons_succ, List.replicate]
      have k5 : ∃ d, newLeast c (dueD l f ch c) = some d := by
        cases q : dueD l f ch c with
        | nil => exact absurd q hd
        | cons x y =>
          rw [q] at k3
          simp at k3
          exact Option.isSome_iff_exists.mp k3
      obtain ⟨d, e2⟩ := k5
      have e3 := e2
      unfold newLeast at e3
      obtain ⟨d1, e4, e5⟩ := Option.bind_eq_some_iff.mp e3
      refine ⟨small 1 (by decide), 1, rfl, _, e4, _, e5, ?_⟩
      have hh := h (.fz (.lst (dueD l f ch c))) s9 s10 s11
      rw [stepL_non hd e2] at hh
      exact hh
    | false =>
      simp only [Bool.false_eq_true, if_false]
      have hh := h (.fz (.lst (dueD l f ch c))) s9 s10 s11
      rw [stepL_old hl] at hh
      exact hh
/-- one turn -/
theorem law_turn {K : PySem.W.Frag} {mg : Str → Option Value} {tabs : List (Addr × Str)} {pa ca : Addr} {ns : List Int} {s0 s2 s3 s4 s5 s6 s7 s8 s9 s10 s11 : Sl} {n : Nat} {E : DZ} (hn : 3 ≤ n)
    (h : ∀ s2 s3 s4 s5 s6 s7 s8 s9 s10 s11, E.nx ⟨[s0, .fz .pen, s2, s3, s4, s5, s6, s7, s8, s9, s10, s11], n - 3⟩) : t_law_4 (Gq K mg tabs pa ca ns) ⟨[s0, .fz .pen, s2, s3, s4, s5, s6, s7, s8, s9, s10, s11], n⟩ E := by
  unfold t_law_4
  refine ⟨small 5 (by decide), _, _, rfl, rfl, by decide, by decide, (by show 0 < n; omega), fun x1 hx1 => ⟨small 5 (by decide), _, _, rfl, rfl, by decide, by decide, (by show 0 < n - 1; omega), fun x2 hx2 => ⟨small 5 (by decide), _, _, rfl, rfl, by decide, by decide, (by show 0 < n - 1 - 1; omega), fun x3 hx3 => ⟨small 4 (by decide), ?_⟩⟩⟩⟩
  obtain ⟨l, rfl, h1⟩ := pick5 (.inl hx1)
  obtain ⟨f, rfl, h2⟩ := pick5 (.inr hx2)
  obtain ⟨ch, rfl, h3⟩ := pick5 (.inl hx3)
  obtain ⟨ck, _⟩ := checks h1 h2 h3
  obtain ⟨l1, l2⟩ := comb_le h1
  obtain ⟨f1, f2⟩ := comb_le h2
  obtain ⟨ch1, ch2⟩ := comb_le h3
  refine ⟨_, rfl, rfl, _, _, rfl, _, _, rfl, _, _, rfl, _, _, rfl, rfl, ?_⟩
  have n3 : n - 1 - 1 - 1 = n - 3 := by omega
  rw [n3]
  refine ⟨_, rfl, ?_⟩
  refine forL_ind (fun r st => ∃ (cs : List Int) (s7 s8 s9 s10 s11 : Sl) (least : D), r = cs.map D.int ∧ (∀ c ∈ cs, c ∈ ([1, 2, 3, 4, 5] : List Int)) ∧ cs.foldl (fun d c => stepL l f ch c d) least = leastL l f ch ∧ st = ⟨[s0, .fz .pen, s2, .fz (.int l), .fz (.int f), .fz (.int ch), .fz least, s7, s8, s9, s10, s11], n - 3⟩) ?_ ?_ _ _ ⟨[1, 2, 3, 4, 5], s7, s8, s9, s10, s11, .non, rfl, fun c hc => hc, rfl, rfl⟩
  · rintro st ⟨cs, s7, s8, s9, s10, s11, least, e1, e2, e3, rfl⟩
    have : cs = [] := by
      cases cs with
      | nil => rfl
      | cons a b => cases e1
    subst this
    have e3 : least = leastL l f ch := e3
    subst e3
    simp only [dsSeq, dsIf, dsRet, dsRetN, dsDrop, dsNext, dsRaise, dsSet, dsSetL, dsAsg, dsFor, dAnd, dOr, dNot, dIf, dCB, dCall, dCons, dNil, dVar, dC, dOp, dTest, dTup, dLst, dSz, dChain, dtAnd, dtOr, dtNot, dItems, dRng, gsTup, gsCons, gsNil, gVar, dApp, slots, DS.set, List.map, List.length, List.cons_append, List.nil_append, List.append_nil, List.getElem?_cons_zero, List.getElem?_cons_succ, List.set_cons_zero, List.set_cons_succ, List.replicate, dCallK, pick]
    refine ⟨_, rfl, isN (leastL l f ch), rfl, ?_⟩
    unfold chk2 at ck
    split at ck
    · rename_i e4
      have big := of_decide_eq_true ck
      rw [e4]
      simp only [isN, if_true]
      refine heard_clash (p := "copies") (fun A B hB => ?_) ?_
      · simp only [askOf, dsSeq, dsIf, dsRet, dsRetN, dsDrop, dsNext, dsRaise, dsSet, dsSetL, dsAsg, dsFor, dAnd, dOr, dNot, dIf, dCB, dCall, dCons, dNil, dVar, dC, dOp, dTest, dTup, dLst, dSz, dChain, dtAnd, dtOr, dtNot, dItems, dRng, gsTup, gsCons, gsNil, gVar, dApp, slots, DS.set, List.map, List.length, List.cons_append, List.nil_append, List.append_nil, List.getElem?_cons_zero, List.getElem?_cons_succ, List.set_cons_zero, List.set_cons_succ, List.replicate, unol]
        show runE (bindE (needW "liars" (.int l) 0 5) fun _ => bindE (needW "falls" (.int f) 0 5) fun _ => bindE (needW "changes" (.int ch) 0 5) fun _ => if 2 * f + ch + l + 1 > 5 then some (.error (bad "Clashing" "copies")) else some (.ok (D.tup [.int (2 * f + ch + l + 1), .int (2 * f + ch + l + 1 - f), .int (2 * f + ch + l + 1 - f)]))) _ _
        rw [needW_ok l1 l2, needW_ok f1 f2, needW_ok ch1 ch2]
        simp only [bindE]
        rw [if_pos big]
        exact hB
      · refine ⟨small 2 (by decide), _, neF_ok (by decide +kernel), false, rfl, ?_⟩
        simp only [Bool.false_eq_true, if_false]
        exact h _ _ _ _ _ _ _ _ _ _
    · rename_i a b d e4
      simp only [Bool.and_eq_true, decide_eq_true_eq] at ck
      obtain ⟨⟨⟨⟨z1, rfl⟩, rfl⟩, rfl⟩, z5⟩ := ck
      obtain ⟨txt, r1, r2⟩ := reprOk_ok z5
      have lp : ∀ {n : Nat} {P : D → Nat → Prop} {R : X → Nat → Prop}, P (leastL l f ch) n → sp_least_plain [.int l, .int f, .int ch] n P R := fun {n P R} hP => by
        show runE (bindE (needW "liars" (.int l) 0 5) fun _ => bindE (needW "falls" (.int f) 0 5) fun _ => bindE (needW "changes" (.int ch) 0 5) fun _ => if 2 * f + ch + l + 1 > 5 then some (.error (bad "Clashing" "copies")) else some (.ok (D.tup [.int (2 * f + ch + l + 1), .int (2 * f + ch + l + 1 - f), .int (2 * f + ch + l + 1 - f)]))) _ _
        rw [needW_ok l1 l2, needW_ok f1 f2, needW_ok ch1 ch2]
        simp only [bindE]
        rw [if_neg (by omega)]
        rw [e4] at hP
        exact hP
      rw [e4] at lp ⊢
      simp only [isN, Bool.false_eq_true, if_false]
      refine lp ⟨trivial, trivial, lp ⟨small 2 (by decide), _, r1, small 2 (by decide), _, r1, _, r2, false, rfl, ?_⟩⟩
      simp only [Bool.false_eq_true, if_false]
      exact h _ _ _ _ _ _ _ _ _ _
    · cases ck
  · rintro d r st N ⟨cs, s7, s8, s9, s10, s11, least, e1, e2, e3, rfl⟩ hN
    cases cs with
    | nil => cases e1
    | cons c cs =>
      simp only [List.map_cons, List.cons.injEq] at e1
      obtain ⟨rfl, rfl⟩ := e1
      exact law_copies h1 h2 h3 (e2 c (List.mem_cons_self ..)) fun s8 s9 s10 s11 => hN _ ⟨cs, _, s8, s9, s10, s11, _, rfl, fun c hc => e2 c (List.mem_cons_of_mem _ hc), e3, rfl⟩
/-- the law's reading, behind its pen -/
theorem p_law {K : PySem.W.Frag} {mg : Str → Option Value} {tabs : List (Addr × Str)} {pa ca : Addr} {ns : List Int} : t_law (Gq K mg tabs pa ca ns) ⟨[.un, .fz .pen, .un, .un, .un, .un, .un, .un, .un, .un, .un, .un], 12⟩ { nx := fun _ => False, rt := fun d _ => d = .bl true } := by
  unfold t_law
  refine ⟨_, rfl, forL_ind (fun r st => ∃ s2 s3 s4 s5 s6 s7 s8 s9 s10 s11 n, st = ⟨[.un, .fz .pen, s2, s3, s4, s5, s6, s7, s8, s9, s10, s11], n⟩ ∧ 3 * r.length ≤ n) ?_ ?_ _ _ ⟨_, _, _, _, _, _, _, _, _, _, _, rfl, by decide⟩⟩
  · rintro st ⟨s2, s3, s4, s5, s6, s7, s8, s9, s10, s11, n, rfl, hn⟩
    simp only [dsSeq, dsIf, dsRet, dsRetN, dsDrop, dsNext, dsRaise, dsSet, dsSetL, dsAsg, dsFor, dAnd, dOr, dNot, dIf, dCB, dCall, dCons, dNil, dVar, dC, dOp, dTest, dTup, dLst, dSz, dChain, dtAnd, dtOr, dtNot, dItems, dRng, gsTup, gsCons, gsNil, gVar, dApp, slots, DS.set, List.map, List.length, List.cons_append, List.nil_append, List.append_nil, List.getElem?_cons_zero, List.getElem?_cons_succ, List.set_cons_zero, List.set_cons_succ, List.replicate]
    refine call_ok (F := fn_least_plain) (by rfl) ⟨small 3 (by decide), _, rfl, true, rfl, ?_⟩
    simp only [if_true]
    refine call_ok (F := fn_plain_pairs) (by rfl) ?_
    refine ⟨small 2 (by decide), small 2 (by decide), small 2 (by decide), small 2 (by decide), small 2 (by decide), small 2 (by decide), small 6 (by decide), _, rfl, rfl⟩
  · rintro d r st N ⟨s2, s3, s4, s5, s6, s7, s8, s9, s10, s11, n, rfl, hn⟩ hN
    simp only [List.length_cons] at hn
    exact law_turn (by show 3 ≤ n; omega) fun s2 s3 s4 s5 s6 s7 s8 s9 s10 s11 => hN _ ⟨s2, s3, s4, s5, s6, s7, s8, s9, s10, s11, _, rfl, by show 3 * r.length ≤ n - 3; omega⟩
end Pl

set_option maxHeartbeats 0
namespace Hx
open PySem
open PySem.Spec
open PyProof.Rows
open L2
open Dl
def EXS : List (Str × List Str) := [("TrueError", ["TrueError"]), ("PartError", ["PartError", "TrueError"]), ("ValueKept", ["ValueKept", "TrueError"]), ("BadName", ["BadName", "PartError", "TrueError"]), ("BadNumber", ["BadNumber", "PartError", "TrueError"]), ("BadBook", ["BadBook", "PartError", "TrueError"]), ("BadRow", ["BadRow", "PartError", "TrueError"]), ("BadChange", ["BadChange", "ValueKept", "TrueError"]), ("BadRule", ["BadRule", "PartError", "TrueError"]), ("BadAsk", ["BadAsk", "PartError", "TrueError"]), ("Clashing", ["Clashing", "PartError", "TrueError"]), ("BadText", ["BadText", "TrueError"]), ("NoHost", ["NoHost", "TrueError"]), ("TooMany", ["TooMany", "TrueError"])]
def CLS : List (Str × List Str) := []
def FLD : List (Str × Str) := [("PartError", "part"), ("ValueKept", "value"), ("BadName", "part"), ("BadNumber", "part"), ("BadBook", "part"), ("BadRow", "part"), ("BadChange", "value"), ("BadRule", "part"), ("BadAsk", "part"), ("Clashing", "part"), ("BadText", "line"), ("BadText", "word"), ("NoHost", "place"), ("TooMany", "what"), ("TooMany", "most")]
abbrev si_BadNumber : Stmt := Hd.sub 5 0
def i_BadNumber : Ini := ⟨"BadNumber", ["part"], "PartError.__init__", defArgs si_BadNumber, defBody si_BadNumber, defScope si_BadNumber⟩
abbrev si_Clashing : Stmt := Hd.sub 5 0
def i_Clashing : Ini := ⟨"Clashing", ["part"], "PartError.__init__", defArgs si_Clashing, defBody si_Clashing, defScope si_Clashing⟩
def inis : List Ini := [i_BadNumber, i_Clashing]
abbrev ex : PySem.W.Frag → Bool := exY CLS EXS FLD inis Hd.Pg.main.file
abbrev hk : PySem.W.Hook := hookY 5 Hd.fa Hd.fn Hd.tf ex inis
def ob (s : PySem.W.SharedT) : AlY := obsY 5 Hd.fa Hd.fn Hd.tf ex inis (HandSHeadRun.getT s)
theorem ob_eq (s : PySem.W.SharedT) : ob s = hk.obs s.abs := obsY_eq (HandSHeadRun.getT_eq s)
abbrev li : Nat := 33
theorem run (w : World) : HandSHeadRun.RunEq Hd.R (PySem.W.view Hd.R.prog [li]) hk ob 6000 Hd.loose w := by
  intro os
  kernel_rfl
end Hx

set_option maxHeartbeats 3900000
namespace As
open PySem
open PySem.Spec
open PyProof.Rows
open L2
open Dl
open Sp
open Rd
open Pl
abbrev Pr : Program := Hd.Pg
abbrev Says (w : World) (h : Heap) (K : PySem.W.Frag) : Prop := SaysY Hd.fa Hd.fn Hd.tf Hx.ex Hx.inis w h K
section
variable {gb : Bool} {w : World} {K : PySem.W.Frag} {mg : Str → Option Value} {h h2 base : Heap} {g : Gr}
theorem mo_of (X : K.In h) (G : h.Ns mainGlobals mg) (c : Says w h2 K) (e : g.mg = mg) : Mo g mg :=
  ⟨He.int_ok X G (c.x.t.d.fact 16),
    He.int_ok X G (c.x.t.d.fact 17),
    He.free_ok X G (c.x.t.d.fact 30),
    He.free_ok X G (c.x.t.d.fact 31),
    He.free_ok X G (c.x.t.d.fact 32),
    He.free_ok X G (c.x.t.d.fact 33),
    He.free_ok X G (c.x.t.d.fact 34),
    He.free_ok X G (c.x.t.d.fact 35),
    He.free_ok X G (c.x.t.d.fact 36),
    He.free_ok X G (c.x.t.d.fact 37),
    He.free_ok X G (c.x.t.d.fact 38),
    He.free_ok X G (c.x.t.d.fact 39),
    He.free_ok X G (c.x.t.d.fact 40),
    He.free_ok X G (c.x.t.d.fact 41),
    He.free_ok X G (c.x.t.d.fact 42),
    ⟨_, (congrFun e _).trans (He.glo_ok X G (c.x.t.d.fact 2))⟩,
    ⟨_, (congrFun e _).trans (He.glo_ok X G (c.x.t.d.fact 3))⟩,
    ⟨_, (congrFun e _).trans (He.glo_ok X G (c.x.t.d.fact 4))⟩,
    ⟨_, (congrFun e _).trans (He.glo_ok X G (c.x.t.d.fact 5))⟩,
    ⟨_, (congrFun e _).trans (He.glo_ok X G (c.x.t.d.fact 6))⟩,
    ⟨_, (congrFun e _).trans (He.glo_ok X G (c.x.t.d.fact 7))⟩,
    ⟨_, (congrFun e _).trans (He.glo_ok X G (c.x.t.d.fact 8))⟩,
    ⟨_, (congrFun e _).trans (He.glo_ok X G (c.x.t.d.fact 9))⟩,
    ⟨_, (congrFun e _).trans (He.glo_ok X G (c.x.t.d.fact 10))⟩,
    ⟨_, (congrFun e _).trans (He.glo_ok X G (c.x.t.d.fact 11))⟩,
    ⟨_, (congrFun e _).trans (He.glo_ok X G (c.x.t.d.fact 12))⟩,
    ⟨_, (congrFun e _).trans (He.glo_ok X G (c.x.t.d.fact 13))⟩,
    ⟨_, (congrFun e _).trans (He.glo_ok X G (c.x.t.d.fact 14))⟩,
    ⟨_, (congrFun e _).trans (He.glo_ok X G (c.x.t.d.fact 15))⟩⟩
theorem ss_BadNumber : SupS ["self", "part"] (defScope Hx.si_BadNumber) := ⟨rfl, rfl, rfl, by decide +kernel, by decide +kernel, by decide +kernel, fun x hx => (by decide +kernel : ∀ y ∈ (defScope Hx.si_BadNumber).names, y.2 = .free → y.1 = "__class__") _ (PySem.mem_of_lookup hx) rfl, fun i x hx => by
    have m := List.mem_of_getElem? hx
    exact (by decide +kernel : ∀ y ∈ (["self", "part"] : List Str), (defScope Hx.si_BadNumber).names.lookup y = some .local) x m, rfl, rfl⟩
theorem rz_BadNumber (X : K.In h) (G : h.Ns mainGlobals mg) (c : Says w h2 K) (b : mg "super" = none) : Rz Pr w K mg base 1 "BadNumber" F_BadNumber := by
  have I := SaysY.ini_at (P := Pr) c X G rfl 0 (i := Hx.i_BadNumber) rfl
  obtain ⟨D, cc, cd, fd, SF, SC, kV, doc, pm, an, ct, rfl⟩ := I.sf
  refine ⟨_, _, D, _, I.gl, I.fi, I.ty, init1 (k := 0) ss_BadNumber SF b rfl rfl (by decide) (by decide) (fun _ => rfl) (fun _ => ⟨_, rfl⟩) (fun _ => rfl) (fun _ => rfl), .all fun us hl => ?_, SC⟩
  match us, hl with
  | [_, _], _ => rfl
theorem ss_Clashing : SupS ["self", "part"] (defScope Hx.si_Clashing) := ⟨rfl, rfl, rfl, by decide +kernel, by decide +kernel, by decide +kernel, fun x hx => (by decide +kernel : ∀ y ∈ (defScope Hx.si_Clashing).names, y.2 = .free → y.1 = "__class__") _ (PySem.mem_of_lookup hx) rfl, fun i x hx => by
    have m := List.mem_of_getElem? hx
    exact (by decide +kernel : ∀ y ∈ (["self", "part"] : List Str), (defScope Hx.si_Clashing).names.lookup y = some .local) x m, rfl, rfl⟩
theorem rz_Clashing (X : K.In h) (G : h.Ns mainGlobals mg) (c : Says w h2 K) (b : mg "super" = none) : Rz Pr w K mg base 1 "Clashing" F_Clashing := by
  have I := SaysY.ini_at (P := Pr) c X G rfl 1 (i := Hx.i_Clashing) rfl
  obtain ⟨D, cc, cd, fd, SF, SC, kV, doc, pm, an, ct, rfl⟩ := I.sf
  refine ⟨_, _, D, _, I.gl, I.fi, I.ty, init1 (k := 0) ss_Clashing SF b rfl rfl (by decide) (by decide) (fun _ => rfl) (fun _ => ⟨_, rfl⟩) (fun _ => rfl) (fun _ => rfl), .all fun us hl => ?_, SC⟩
  match us, hl with
  | [_, _], _ => rfl
theorem len__law_draw (ds : List D) (n : Nat) (PP : D → Nat → Prop) (RR : X → Nat → Prop) (h : sp__law_draw ds n PP RR) : ds.length = 2 := by
  first
  | (obtain ⟨_, rfl, _⟩ := h; rfl)
  | (obtain ⟨_, _, rfl, _⟩ := h; rfl)
  | (obtain ⟨_, _, _, rfl, _⟩ := h; rfl)
  | (obtain ⟨rfl, _⟩ := h; rfl)
  | (have h2 : fn__law_draw ds ≠ none := fun e => by
      unfold sp__law_draw spX at h
      rw [e] at h
      exact h
     revert h2
     unfold fn__law_draw
     split <;> intro h2 <;> first | rfl | exact absurd rfl h2)
theorem len_is_integer (ds : List D) (n : Nat) (PP : D → Nat → Prop) (RR : X → Nat → Prop) (h : sp_is_integer ds n PP RR) : ds.length = 1 := by
  first
  | (obtain ⟨_, rfl, _⟩ := h; rfl)
  | (obtain ⟨_, _, rfl, _⟩ := h; rfl)
  | (obtain ⟨_, _, _, rfl, _⟩ := h; rfl)
  | (obtain ⟨rfl, _⟩ := h; rfl)
  | (have h2 : fn_is_integer ds ≠ none := fun e => by
      unfold sp_is_integer spX at h
      rw [e] at h
      exact h
     revert h2
     unfold fn_is_integer
     split <;> intro h2 <;> first | rfl | exact absurd rfl h2)
theorem len_is_within (ds : List D) (n : Nat) (PP : D → Nat → Prop) (RR : X → Nat → Prop) (h : sp_is_within ds n PP RR) : ds.length = 3 := by
  first
  | (obtain ⟨_, rfl, _⟩ := h; rfl)
  | (obtain ⟨_, _, rfl, _⟩ := h; rfl)
  | (obtain ⟨_, _, _, rfl, _⟩ := h; rfl)
  | (obtain ⟨rfl, _⟩ := h; rfl)
  | (have h2 : fn_is_within ds ≠ none := fun e => by
      unfold sp_is_within spX at h
      rw [e] at h
      exact h
     revert h2
     unfold fn_is_within
     split <;> intro h2 <;> first | rfl | exact absurd rfl h2)
theorem len_need_within (ds : List D) (n : Nat) (PP : D → Nat → Prop) (RR : X → Nat → Prop) (h : sp_need_within ds n PP RR) : ds.length = 4 := by
  first
  | (obtain ⟨_, rfl, _⟩ := h; rfl)
  | (obtain ⟨_, _, rfl, _⟩ := h; rfl)
  | (obtain ⟨_, _, _, rfl, _⟩ := h; rfl)
  | (obtain ⟨rfl, _⟩ := h; rfl)
  | (have h2 : fn_need_within ds ≠ none := fun e => by
      unfold sp_need_within spX at h
      rw [e] at h
      exact h
     revert h2
     unfold fn_need_within
     split <;> intro h2 <;> first | rfl | exact absurd rfl h2)
theorem len_need_plain (ds : List D) (n : Nat) (PP : D → Nat → Prop) (RR : X → Nat → Prop) (h : sp_need_plain ds n PP RR) : ds.length = 3 := by
  first
  | (obtain ⟨_, rfl, _⟩ := h; rfl)
  | (obtain ⟨_, _, rfl, _⟩ := h; rfl)
  | (obtain ⟨_, _, _, rfl, _⟩ := h; rfl)
  | (obtain ⟨rfl, _⟩ := h; rfl)
  | (have h2 : fn_need_plain ds ≠ none := fun e => by
      unfold sp_need_plain spX at h
      rw [e] at h
      exact h
     revert h2
     unfold fn_need_plain
     split <;> intro h2 <;> first | rfl | exact absurd rfl h2)
theorem len_together (ds : List D) (n : Nat) (PP : D → Nat → Prop) (RR : X → Nat → Prop) (h : sp_together ds n PP RR) : ds.length = 3 := by
  first
  | (obtain ⟨_, rfl, _⟩ := h; rfl)
  | (obtain ⟨_, _, rfl, _⟩ := h; rfl)
  | (obtain ⟨_, _, _, rfl, _⟩ := h; rfl)
  | (obtain ⟨rfl, _⟩ := h; rfl)
  | (have h2 : fn_together ds ≠ none := fun e => by
      unfold sp_together spX at h
      rw [e] at h
      exact h
     revert h2
     unfold fn_together
     split <;> intro h2 <;> first | rfl | exact absurd rfl h2)
theorem len_plain_bears (ds : List D) (n : Nat) (PP : D → Nat → Prop) (RR : X → Nat → Prop) (h : sp_plain_bears ds n PP RR) : ds.length = 3 := by
  first
  | (obtain ⟨_, rfl, _⟩ := h; rfl)
  | (obtain ⟨_, _, rfl, _⟩ := h; rfl)
  | (obtain ⟨_, _, _, rfl, _⟩ := h; rfl)
  | (obtain ⟨rfl, _⟩ := h; rfl)
  | (have h2 : fn_plain_bears ds ≠ none := fun e => by
      unfold sp_plain_bears spX at h
      rw [e] at h
      exact h
     revert h2
     unfold fn_plain_bears
     split <;> intro h2 <;> first | rfl | exact absurd rfl h2)
theorem len_plain_ends (ds : List D) (n : Nat) (PP : D → Nat → Prop) (RR : X → Nat → Prop) (h : sp_plain_ends ds n PP RR) : ds.length = 5 := by
  first
  | (obtain ⟨_, rfl, _⟩ := h; rfl)
  | (obtain ⟨_, _, rfl, _⟩ := h; rfl)
  | (obtain ⟨_, _, _, rfl, _⟩ := h; rfl)
  | (obtain ⟨rfl, _⟩ := h; rfl)
  | (have h2 : fn_plain_ends ds ≠ none := fun e => by
      unfold sp_plain_ends spX at h
      rw [e] at h
      exact h
     revert h2
     unfold fn_plain_ends
     split <;> intro h2 <;> first | rfl | exact absurd rfl h2)
theorem len_plain_pairs (ds : List D) (n : Nat) (PP : D → Nat → Prop) (RR : X → Nat → Prop) (h : sp_plain_pairs ds n PP RR) : ds.length = 4 := by
  first
  | (obtain ⟨_, rfl, _⟩ := h; rfl)
  | (obtain ⟨_, _, rfl, _⟩ := h; rfl)
  | (obtain ⟨_, _, _, rfl, _⟩ := h; rfl)
  | (obtain ⟨rfl, _⟩ := h; rfl)
  | (have h2 : fn_plain_pairs ds ≠ none := fun e => by
      unfold sp_plain_pairs spX at h
      rw [e] at h
      exact h
     revert h2
     unfold fn_plain_pairs
     split <;> intro h2 <;> first | rfl | exact absurd rfl h2)
theorem len_least_plain (ds : List D) (n : Nat) (PP : D → Nat → Prop) (RR : X → Nat → Prop) (h : sp_least_plain ds n PP RR) : ds.length = 3 := by
  first
  | (obtain ⟨_, rfl, _⟩ := h; rfl)
  | (obtain ⟨_, _, rfl, _⟩ := h; rfl)
  | (obtain ⟨_, _, _, rfl, _⟩ := h; rfl)
  | (obtain ⟨rfl, _⟩ := h; rfl)
  | (have h2 : fn_least_plain ds ≠ none := fun e => by
      unfold sp_least_plain spX at h
      rw [e] at h
      exact h
     revert h2
     unfold fn_least_plain
     split <;> intro h2 <;> first | rfl | exact absurd rfl h2)
theorem len__law_pick (ds : List D) (n : Nat) (PP : D → Nat → Prop) (RR : X → Nat → Prop) (h : sp__law_pick ds n PP RR) : ds.length = 2 := by
  first
  | (obtain ⟨_, rfl, _⟩ := h; rfl)
  | (obtain ⟨_, _, rfl, _⟩ := h; rfl)
  | (obtain ⟨_, _, _, rfl, _⟩ := h; rfl)
  | (obtain ⟨rfl, _⟩ := h; rfl)
  | (have h2 : fn__law_pick ds ≠ none := fun e => by
      unfold sp__law_pick spX at h
      rw [e] at h
      exact h
     revert h2
     unfold fn__law_pick
     split <;> intro h2 <;> first | rfl | exact absurd rfl h2)
theorem fd_is_integer {fA : Addr} {fd : FuncData} (F : FunD K "is_integer" "is_integer" (defArgs Hd.s_is_integer) (defBody Hd.s_is_integer) (defScope Hd.s_is_integer) [] [] fA fd) (gl : mg "is_integer" = some (.ref fA)) (hK : g.K = K) (hm : g.mg = mg) (gr : GrF g) (M : Mo g mg) : Fd false Pr w K mg base g 1 "is_integer" fA fd ["value"] sp_is_integer :=
  ⟨fn_D F sc_is_integer hK hm gr len_is_integer (fun _ _ _ _ _ _ _ _ B => r_is_integer B M) (p_is_integer g), gl, F.kp, F.bindsN fun _ _ _ _ _ _ us hl => match us, hl with | [_], _ => rfl⟩
theorem fd_is_within {fA : Addr} {fd : FuncData} (F : FunD K "is_within" "is_within" (defArgs Hd.s_is_within) (defBody Hd.s_is_within) (defScope Hd.s_is_within) [] [] fA fd) (gl : mg "is_within" = some (.ref fA)) (hK : g.K = K) (hm : g.mg = mg) (gr : GrF g) (M : Mo g mg) {f_is_integer : Addr} {d_is_integer : FuncData} (h_is_integer : Fd false Pr w K mg base g 1 "is_integer" f_is_integer d_is_integer ["value"] sp_is_integer) : Fd false Pr w K mg base g 2 "is_within" fA fd ["value", "least", "most"] sp_is_within :=
  ⟨fn_D F sc_is_within hK hm gr len_is_within (fun _ _ _ _ _ _ _ _ B => r_is_within B M h_is_integer) (p_is_within g), gl, F.kp, F.bindsN fun _ _ _ _ _ _ us hl => match us, hl with | [_, _, _], _ => rfl⟩
theorem fd_need_within {fA : Addr} {fd : FuncData} (F : FunD K "need_within" "need_within" (defArgs Hd.s_need_within) (defBody Hd.s_need_within) (defScope Hd.s_need_within) [] [] fA fd) (gl : mg "need_within" = some (.ref fA)) (hK : g.K = K) (hm : g.mg = mg) (gr : GrF g) (M : Mo g mg) (hx : (g.exs.lookup ("BadNumber" : Str)).isSome = true) {f_is_within : Addr} {d_is_within : FuncData} (h_is_within : Fd false Pr w K mg base g 2 "is_within" f_is_within d_is_within ["value", "least", "most"] sp_is_within) (z_BadNumber : Rz Pr w K mg base 1 "BadNumber" F_BadNumber) : Fd false Pr w K mg base g 3 "need_within" fA fd ["part", "value", "least", "most"] sp_need_within :=
  ⟨fn_D F sc_need_within hK hm gr len_need_within (fun _ _ _ _ _ _ _ _ B => r_need_within B M h_is_within z_BadNumber) (p_need_within g hx), gl, F.kp, F.bindsN fun _ _ _ _ _ _ us hl => match us, hl with | [_, _, _, _], _ => rfl⟩
theorem fd_need_plain {fA : Addr} {fd : FuncData} (F : FunD K "need_plain" "need_plain" (defArgs Hd.s_need_plain) (defBody Hd.s_need_plain) (defScope Hd.s_need_plain) [] [] fA fd) (gl : mg "need_plain" = some (.ref fA)) (hK : g.K = K) (hm : g.mg = mg) (gr : GrF g) (M : Mo g mg) {f_need_within : Addr} {d_need_within : FuncData} (h_need_within : Fd false Pr w K mg base g 3 "need_within" f_need_within d_need_within ["part", "value", "least", "most"] sp_need_within) : Fd false Pr w K mg base g 4 "need_plain" fA fd ["copies", "read", "keep"] sp_need_plain :=
  ⟨fn_D F sc_need_plain hK hm gr len_need_plain (fun _ _ _ _ _ _ _ _ B => r_need_plain B M h_need_within) (p_need_plain g), gl, F.kp, F.bindsN fun _ _ _ _ _ _ us hl => match us, hl with | [_, _, _], _ => rfl⟩
theorem fd_together {fA : Addr} {fd : FuncData} (F : FunD K "together" "together" (defArgs Hd.s_together) (defBody Hd.s_together) (defScope Hd.s_together) [] [] fA fd) (gl : mg "together" = some (.ref fA)) (hK : g.K = K) (hm : g.mg = mg) (gr : GrF g) (M : Mo g mg) : Fd false Pr w K mg base g 1 "together" fA fd ["copies", "others", "changes"] sp_together :=
  ⟨fn_D F sc_together hK hm gr len_together (fun _ _ _ _ _ _ _ _ B => r_together B M) (p_together g), gl, F.kp, F.bindsN fun _ _ _ _ _ _ us hl => match us, hl with | [_, _, _], _ => rfl⟩
theorem fd_plain_bears {fA : Addr} {fd : FuncData} (F : FunD K "plain_bears" "plain_bears" (defArgs Hd.s_plain_bears) (defBody Hd.s_plain_bears) (defScope Hd.s_plain_bears) [] [] fA fd) (gl : mg "plain_bears" = some (.ref fA)) (hK : g.K = K) (hm : g.mg = mg) (gr : GrF g) (M : Mo g mg) (hx : (g.exs.lookup ("BadNumber" : Str)).isSome = true) {f_need_plain : Addr} {d_need_plain : FuncData} (h_need_plain : Fd false Pr w K mg base g 4 "need_plain" f_need_plain d_need_plain ["copies", "read", "keep"] sp_need_plain) {f_need_within : Addr} {d_need_within : FuncData} (h_need_within : Fd false Pr w K mg base g 3 "need_within" f_need_within d_need_within ["part", "value", "least", "most"] sp_need_within) {f_together : Addr} {d_together : FuncData} (h_together : Fd false Pr w K mg base g 1 "together" f_together d_together ["copies", "others", "changes"] sp_together) (z_BadNumber : Rz Pr w K mg base 1 "BadNumber" F_BadNumber) : Fd false Pr w K mg base g 5 "plain_bears" fA fd ["one", "other", "changes"] sp_plain_bears :=
  ⟨fn_D F sc_plain_bears hK hm gr len_plain_bears (fun _ _ _ _ _ _ _ _ B => r_plain_bears B M h_need_plain h_need_within h_together z_BadNumber) (p_plain_bears g hx), gl, F.kp, F.bindsN fun _ _ _ _ _ _ us hl => match us, hl with | [_, _, _], _ => rfl⟩
theorem fd_plain_ends {fA : Addr} {fd : FuncData} (F : FunD K "plain_ends" "plain_ends" (defArgs Hd.s_plain_ends) (defBody Hd.s_plain_ends) (defScope Hd.s_plain_ends) [] [] fA fd) (gl : mg "plain_ends" = some (.ref fA)) (hK : g.K = K) (hm : g.mg = mg) (gr : GrF g) (M : Mo g mg) {f_need_plain : Addr} {d_need_plain : FuncData} (h_need_plain : Fd false Pr w K mg base g 4 "need_plain" f_need_plain d_need_plain ["copies", "read", "keep"] sp_need_plain) {f_need_within : Addr} {d_need_within : FuncData} (h_need_within : Fd false Pr w K mg base g 3 "need_within" f_need_within d_need_within ["part", "value", "least", "most"] sp_need_within) : Fd false Pr w K mg base g 5 "plain_ends" fA fd ["copies", "read", "keep", "liars", "falls"] sp_plain_ends :=
  ⟨fn_D F sc_plain_ends hK hm gr len_plain_ends (fun _ _ _ _ _ _ _ _ B => r_plain_ends B M h_need_plain h_need_within) (p_plain_ends g), gl, F.kp, F.bindsN fun _ _ _ _ _ _ us hl => match us, hl with | [_, _, _, _, _], _ => rfl⟩
theorem fd_plain_pairs {fA : Addr} {fd : FuncData} (F : FunD K "plain_pairs" "plain_pairs" (defArgs Hd.s_plain_pairs) (defBody Hd.s_plain_pairs) (defScope Hd.s_plain_pairs) [] [] fA fd) (gl : mg "plain_pairs" = some (.ref fA)) (hK : g.K = K) (hm : g.mg = mg) (gr : GrF g) (M : Mo g mg) {f_need_within : Addr} {d_need_within : FuncData} (h_need_within : Fd false Pr w K mg base g 3 "need_within" f_need_within d_need_within ["part", "value", "least", "most"] sp_need_within) {f_plain_ends : Addr} {d_plain_ends : FuncData} (h_plain_ends : Fd false Pr w K mg base g 5 "plain_ends" f_plain_ends d_plain_ends ["copies", "read", "keep", "liars", "falls"] sp_plain_ends) {f_plain_bears : Addr} {d_plain_bears : FuncData} (h_plain_bears : Fd false Pr w K mg base g 5 "plain_bears" f_plain_bears d_plain_bears ["one", "other", "changes"] sp_plain_bears) : Fd false Pr w K mg base g 6 "plain_pairs" fA fd ["copies", "liars", "falls", "changes"] sp_plain_pairs :=
  ⟨fn_D F sc_plain_pairs hK hm gr len_plain_pairs (fun _ _ _ _ _ _ _ _ B => r_plain_pairs B M h_need_within h_plain_ends h_plain_bears) (p_plain_pairs g), gl, F.kp, F.bindsN fun _ _ _ _ _ _ us hl => match us, hl with | [_, _, _, _], _ => rfl⟩
theorem fd_least_plain {fA : Addr} {fd : FuncData} (F : FunD K "least_plain" "least_plain" (defArgs Hd.s_least_plain) (defBody Hd.s_least_plain) (defScope Hd.s_least_plain) [] [] fA fd) (gl : mg "least_plain" = some (.ref fA)) (hK : g.K = K) (hm : g.mg = mg) (gr : GrF g) (M : Mo g mg) (hx : (g.exs.lookup ("Clashing" : Str)).isSome = true) {f_need_within : Addr} {d_need_within : FuncData} (h_need_within : Fd false Pr w K mg base g 3 "need_within" f_need_within d_need_within ["part", "value", "least", "most"] sp_need_within) (z_Clashing : Rz Pr w K mg base 1 "Clashing" F_Clashing) : Fd false Pr w K mg base g 4 "least_plain" fA fd ["liars", "falls", "changes"] sp_least_plain :=
  ⟨fn_D F sc_least_plain hK hm gr len_least_plain (fun _ _ _ _ _ _ _ _ B => r_least_plain B M h_need_within z_Clashing) (p_least_plain g hx), gl, F.kp, F.bindsN fun _ _ _ _ _ _ us hl => match us, hl with | [_, _, _], _ => rfl⟩
theorem fd__law_pick {fA : Addr} {fd : FuncData} (F : FunD K "_law_pick" "_law_pick" (defArgs Hd.s__law_pick) (defBody Hd.s__law_pick) (defScope Hd.s__law_pick) [] [] fA fd) (gl : mg "_law_pick" = some (.ref fA)) (hK : g.K = K) (hm : g.mg = mg) (gr : GrF g) (M : Mo g mg) {f__law_draw : Addr} {d__law_draw : FuncData} (h__law_draw : Fd false Pr w K mg base g 1 "_law_draw" f__law_draw d__law_draw ["pen", "many"] sp__law_draw) : Fd false Pr w K mg base g 2 "_law_pick" fA fd ["pen", "some"] sp__law_pick :=
  ⟨fn_D F sc__law_pick hK hm gr len__law_pick (fun _ _ _ _ _ _ _ _ B => r__law_pick B M h__law_draw) (p__law_pick g), gl, F.kp, F.bindsN fun _ _ _ _ _ _ us hl => match us, hl with | [_, _], _ => rfl⟩
theorem fd__law_draw {fA : Addr} {fd : FuncData} (F : FunD K "_law_draw" "_law_draw" (defArgs Hd.s__law_draw) (defBody Hd.s__law_draw) (defScope Hd.s__law_draw) [] [] fA fd) (gl : mg "_law_draw" = some (.ref fA)) (hK : g.K = K) (M : Mo g mg) : Fd false Pr w K mg base g 1 "_law_draw" fA fd ["pen", "many"] sp__law_draw :=
  ⟨Dr.ok_draw F hK M.b_len M.b_abs M.b_int, gl, F.kp, F.bindsN fun _ _ _ _ _ _ us hl => match us, hl with | [_, _], _ => rfl⟩
theorem kw_k_plain_pairs_3210 {fA : Addr} {fd : FuncData} (F : FunD K "plain_pairs" "plain_pairs" (defArgs Hd.s_plain_pairs) (defBody Hd.s_plain_pairs) (defScope Hd.s_plain_pairs) [] [] fA fd) : KwB fd ["copies", "liars", "falls", "changes"] 0 ["changes", "falls", "liars", "copies"] [3, 2, 1, 0] := by
  obtain ⟨oc, od, dV, kV, doc, pm, an, cdv, ct, osl, rfl, lk, hcd, hD, hK⟩ := F.ex
  intro us ws h1 h2
  rcases hD with ⟨_, rfl⟩ | ⟨e, _⟩
  · match us, ws, h1, h2 with
    | [], [_, _, _, _], _, _ => rfl
  · exact absurd rfl e
theorem kw_k_least_plain_210 {fA : Addr} {fd : FuncData} (F : FunD K "least_plain" "least_plain" (defArgs Hd.s_least_plain) (defBody Hd.s_least_plain) (defScope Hd.s_least_plain) [] [] fA fd) : KwB fd ["liars", "falls", "changes"] 0 ["changes", "falls", "liars"] [2, 1, 0] := by
  obtain ⟨oc, od, dV, kV, doc, pm, an, cdv, ct, osl, rfl, lk, hcd, hD, hK⟩ := F.ex
  intro us ws h1 h2
  rcases hD with ⟨_, rfl⟩ | ⟨e, _⟩
  · match us, ws, h1, h2 with
    | [], [_, _, _], _, _ => rfl
  · exact absurd rfl e
end
/-- what the law promises -/
def spLaw (K : PySem.W.Frag) (T : List Addr) : L2.Sp := fun vs H Q _ => ∃ (a : Addr) (ns : List Int), vs = [.ref a] ∧ SqL K H a (ns.map V.int) ∧ ns.length ≤ 63 ∧ (∀ p ∈ T, H p = some (.tbl #[])) ∧ ∀ H1, Q (.bl true) H1
abbrev qL : Str := ("law" : Str) ++ ".<locals>." ++ "<lambda>"
section
variable {w : World} {K : PySem.W.Frag} {mg : Str → Option Value} {h h2 base : Heap}
theorem hd_ok {g : Gr} {f cc ga : Addr} {A : Around} {outer : List Env} {s : Shared} {H : Hp} {E : XK} {fd : FuncData} (B : Cn true (DX Pr w K mg base N_law "law" (defScope Hd.s_law) f (.ref cc) A outer s H E) g (WE E) 8) (M : Mo g mg) (F : FunD K "_law_heard" "_law_heard" (defArgs Hd.s__law_heard) (defBody Hd.s__law_heard) (defScope Hd.s__law_heard) [] [] ga fd) (gl : mg "_law_heard" = some (.ref ga)) : Hd true (DX Pr w K mg base N_law "law" (defScope Hd.s_law) f (.ref cc) A outer s H E) g "_law_heard" (hd__law_heard g) := by
  have bd : L2.Binds K fd ["ask"] [] := F.bindsN fun _ _ _ _ _ _ us hl => match us, hl with | [_], _ => rfl
  obtain ⟨oc, od, dV, kV, doc, pm, an, cdv, ct, osl, rfl, lk, hcd, _, _⟩ := F.ex
  exact ⟨ga, "ask", N__law_heard, _, _, _, dV, kV, doc, pm, cdv, ct, oc, an, od, osl, gl, F.kp, lk, hcd, bd, sc__law_heard, rfl, .inl rfl, by decide, by decide, gives_of (k := 7) (hd := hd__law_heard g) (tH := fun f T => t__law_heard g f T) B sc__law_heard (fun s H f T en B2 ask => r__law_heard ⟨B2.o, B2.tk, B2.hr.mono (Nat.zero_le _), B2.nd, B2.gd⟩ M ask) fun f T n P hh => hh f⟩
theorem ok_law (X : K.In h) (G : h.Ns mainGlobals mg) (c : Says w h2 K) (bX : K.In base) (bG : base.Ns mainGlobals mg) (tb : ∀ p ∈ Hd.tf, LamX.TabB base mg (He.cT K p).1 (He.cT K p).2) {fd : FuncData} (F : FunD K "law" "law" (defArgs Hd.s_law) (defBody Hd.s_law) (defScope Hd.s_law) [] [] (He.ga K "law") fd) : FnR true Pr w K mg base 9 (He.ga K "law") fd ["script"] (spLaw K (Hd.tf.map fun p => (He.cT K p).2)) := by
  have gr : ∀ tabs p c ns, GrF (Gq K mg tabs p c ns) := fun tabs p c2 ns => SaysY.gr (g := Gq K mg tabs p c2 ns) c X G
  have Mf : ∀ tabs p c ns, Mo (Gq K mg tabs p c ns) mg := fun tabs p c2 ns => mo_of X G c rfl
  have b_super : mg "super" = none := (Mf [] 0 0 []).b_super
  obtain ⟨d__law_draw, F__law_draw⟩ := c.x.t.d.def_ 10 (d := Hd.d__law_draw) rfl
  have gl__law_draw := He.glo_ok X G (c.x.t.d.fact 26 (f := .glo "_law_draw") rfl)
  obtain ⟨d_is_integer, F_is_integer⟩ := c.x.t.d.def_ 0 (d := Hd.d_is_integer) rfl
  have gl_is_integer := He.glo_ok X G (c.x.t.d.fact 0 (f := .glo "is_integer") rfl)
  obtain ⟨d_is_within, F_is_within⟩ := c.x.t.d.def_ 1 (d := Hd.d_is_within) rfl
  have gl_is_within := He.glo_ok X G (c.x.t.d.fact 1 (f := .glo "is_within") rfl)
  obtain ⟨d_need_within, F_need_within⟩ := c.x.t.d.def_ 2 (d := Hd.d_need_within) rfl
  have gl_need_within := He.glo_ok X G (c.x.t.d.fact 18 (f := .glo "need_within") rfl)
  obtain ⟨d_need_plain, F_need_plain⟩ := c.x.t.d.def_ 3 (d := Hd.d_need_plain) rfl
  have gl_need_plain := He.glo_ok X G (c.x.t.d.fact 19 (f := .glo "need_plain") rfl)
  obtain ⟨d_together, F_together⟩ := c.x.t.d.def_ 4 (d := Hd.d_together) rfl
  have gl_together := He.glo_ok X G (c.x.t.d.fact 20 (f := .glo "together") rfl)
  obtain ⟨d_plain_bears, F_plain_bears⟩ := c.x.t.d.def_ 5 (d := Hd.d_plain_bears) rfl
  have gl_plain_bears := He.glo_ok X G (c.x.t.d.fact 21 (f := .glo "plain_bears") rfl)
  obtain ⟨d_plain_ends, F_plain_ends⟩ := c.x.t.d.def_ 6 (d := Hd.d_plain_ends) rfl
  have gl_plain_ends := He.glo_ok X G (c.x.t.d.fact 22 (f := .glo "plain_ends") rfl)
  obtain ⟨d_plain_pairs, F_plain_pairs⟩ := c.x.t.d.def_ 7 (d := Hd.d_plain_pairs) rfl
  have gl_plain_pairs := He.glo_ok X G (c.x.t.d.fact 23 (f := .glo "plain_pairs") rfl)
  obtain ⟨d_least_plain, F_least_plain⟩ := c.x.t.d.def_ 8 (d := Hd.d_least_plain) rfl
  have gl_least_plain := He.glo_ok X G (c.x.t.d.fact 24 (f := .glo "least_plain") rfl)
  obtain ⟨d__law_pick, F__law_pick⟩ := c.x.t.d.def_ 11 (d := Hd.d__law_pick) rfl
  have gl__law_pick := He.glo_ok X G (c.x.t.d.fact 27 (f := .glo "_law_pick") rfl)
  obtain ⟨d__law_heard, F__law_heard⟩ := c.x.t.d.def_ 12 (d := Hd.d__law_heard) rfl
  have gl__law_heard := He.glo_ok X G (c.x.t.d.fact 28 (f := .glo "_law_heard") rfl)
  obtain ⟨d__law_pen, F__law_pen⟩ := c.x.t.d.def_ 9 (d := Hd.d__law_pen) rfl
  have gl__law_pen := He.glo_ok X G (c.x.t.d.fact 25 (f := .glo "_law_pen") rfl)
  have z_BadNumber : Rz Pr w K mg base 1 "BadNumber" F_BadNumber := rz_BadNumber X G c b_super
  have z_Clashing : Rz Pr w K mg base 1 "Clashing" F_Clashing := rz_Clashing X G c b_super
  have h__law_draw : ∀ tabs p c ns, Fd false Pr w K mg base (Gq K mg tabs p c ns) 1 "_law_draw" _ d__law_draw ["pen", "many"] sp__law_draw := fun tabs p c2 ns => fd__law_draw F__law_draw gl__law_draw rfl (Mf tabs p c2 ns)
  have h_is_integer : ∀ tabs p c ns, Fd false Pr w K mg base (Gq K mg tabs p c ns) 1 "is_integer" _ d_is_integer ["value"] sp_is_integer := fun tabs p c2 ns => fd_is_integer F_is_integer gl_is_integer rfl rfl (gr tabs p c2 ns) (Mf tabs p c2 ns)
  have h_is_within : ∀ tabs p c ns, Fd false Pr w K mg base (Gq K mg tabs p c ns) 2 "is_within" _ d_is_within ["value", "least", "most"] sp_is_within := fun tabs p c2 ns => fd_is_within F_is_within gl_is_within rfl rfl (gr tabs p c2 ns) (Mf tabs p c2 ns) (h_is_integer tabs p c2 ns)
  have h_need_within : ∀ tabs p c ns, Fd false Pr w K mg base (Gq K mg tabs p c ns) 3 "need_within" _ d_need_within ["part", "value", "least", "most"] sp_need_within := fun tabs p c2 ns => fd_need_within F_need_within gl_need_within rfl rfl (gr tabs p c2 ns) (Mf tabs p c2 ns) rfl (h_is_within tabs p c2 ns) z_BadNumber
  have h_need_plain : ∀ tabs p c ns, Fd false Pr w K mg base (Gq K mg tabs p c ns) 4 "need_plain" _ d_need_plain ["copies", "read", "keep"] sp_need_plain := fun tabs p c2 ns => fd_need_plain F_need_plain gl_need_plain rfl rfl (gr tabs p c2 ns) (Mf tabs p c2 ns) (h_need_within tabs p c2 ns)
  have h_together : ∀ tabs p c ns, Fd false Pr w K mg base (Gq K mg tabs p c ns) 1 "together" _ d_together ["copies", "others", "changes"] sp_together := fun tabs p c2 ns => fd_together F_together gl_together rfl rfl (gr tabs p c2 ns) (Mf tabs p c2 ns)
  have h_plain_bears : ∀ tabs p c ns, Fd false Pr w K mg base (Gq K mg tabs p c ns) 5 "plain_bears" _ d_plain_bears ["one", "other", "changes"] sp_plain_bears := fun tabs p c2 ns => fd_plain_bears F_plain_bears gl_plain_bears rfl rfl (gr tabs p c2 ns) (Mf tabs p c2 ns) rfl (h_need_plain tabs p c2 ns) (h_need_within tabs p c2 ns) (h_together tabs p c2 ns) z_BadNumber
  have h_plain_ends : ∀ tabs p c ns, Fd false Pr w K mg base (Gq K mg tabs p c ns) 5 "plain_ends" _ d_plain_ends ["copies", "read", "keep", "liars", "falls"] sp_plain_ends := fun tabs p c2 ns => fd_plain_ends F_plain_ends gl_plain_ends rfl rfl (gr tabs p c2 ns) (Mf tabs p c2 ns) (h_need_plain tabs p c2 ns) (h_need_within tabs p c2 ns)
  have h_plain_pairs : ∀ tabs p c ns, Fd false Pr w K mg base (Gq K mg tabs p c ns) 6 "plain_pairs" _ d_plain_pairs ["copies", "liars", "falls", "changes"] sp_plain_pairs := fun tabs p c2 ns => fd_plain_pairs F_plain_pairs gl_plain_pairs rfl rfl (gr tabs p c2 ns) (Mf tabs p c2 ns) (h_need_within tabs p c2 ns) (h_plain_ends tabs p c2 ns) (h_plain_bears tabs p c2 ns)
  have h_least_plain : ∀ tabs p c ns, Fd false Pr w K mg base (Gq K mg tabs p c ns) 4 "least_plain" _ d_least_plain ["liars", "falls", "changes"] sp_least_plain := fun tabs p c2 ns => fd_least_plain F_least_plain gl_least_plain rfl rfl (gr tabs p c2 ns) (Mf tabs p c2 ns) rfl (h_need_within tabs p c2 ns) z_Clashing
  have h__law_pick : ∀ tabs p c ns, Fd false Pr w K mg base (Gq K mg tabs p c ns) 2 "_law_pick" _ d__law_pick ["pen", "some"] sp__law_pick := fun tabs p c2 ns => fd__law_pick F__law_pick gl__law_pick rfl rfl (gr tabs p c2 ns) (Mf tabs p c2 ns) (h__law_draw tabs p c2 ns)
  have bPen : L2.Binds K d__law_pen ["script"] [] := F__law_pen.bindsN fun _ _ _ _ _ _ us hl => match us, hl with | [_], _ => rfl
  obtain ⟨oc, od, dV, kV, doc, pm, an, cdv, ct, osl, rfl, lk, hcd, _, _⟩ := F.ex
  obtain ⟨cc, rfl⟩ := He.codeIn_ref hcd
  have ecc : He.codeOf K ("law", none) = cc := He.codeOf_eq lk rfl
  have tb1 := tb ("law", none) (List.mem_cons_self ..)
  have tb2 : LamX.TabB base mg cc (He.cT K ("law", none)).2 := by
    have z : (He.cT K ("law", none)).1 = cc := ecc
    rw [← z]
    exact tb1
  refine ⟨fun vs H Q E hs => ?_, fun A outer s H args us vs Q E hg hr e0 b r hs => ?_⟩
  · obtain ⟨_, _, rfl, _⟩ := hs
    rfl
  obtain ⟨a, ns, rfl, hS, hl, hT, hQ⟩ := hs
  have Bn : ∀ tabs p c ns, Room 8 (A.deeper (envOfC "law" (defScope Hd.s_law) s.heap.objs.size (He.ga K "law") (.ref cc))) → Cn true (DX Pr w K mg base N_law "law" (defScope Hd.s_law) (He.ga K "law") (.ref cc) A outer s H E) (Gq K mg tabs p c ns) (WE E) 8 := fun tabs p c2 ns rm => ⟨⟨rfl, rfl, rfl, by
    have z := rm.un
    show (A.deeper (envOfC "law" (defScope Hd.s_law) s.heap.objs.size (He.ga K "law") (.ref cc))).units + 128 < cLine
    omega, gr tabs p c2 ns⟩, takes_of rfl rfl rfl rfl, rm, sc_law.nd, fun _ => hg rfl⟩
  refine LamX.run_ofS lk hcd sc_law hr e0 b r rfl fun rm => ⟨_, (show PSs _ (law1 :: lawR) _ from pss_cons (ps_set (i := 1) sc_law.nd rfl (Or.inl rfl) (pe_call (FnR.ok (Dr.ok_pen (gb := false) F__law_pen (Mf [] 0 0 []).b_int)) (rm.mono (by decide)) rfl gl__law_pen F__law_pen.kp bPen .nil passL (pa_cons (pe_var (i := 0) rfl (.inl rfl)) pa_nil)))
    (PSs.mk (t := fun D σ H1 => ∃ (p c2 : Addr) (ns2 : List Int) (en : En), ls (Gq K mg [((He.cT K ("law", none)).2, qL)] p c2 ns2) en (WE E) (t_law (Gq K mg [((He.cT K ("law", none)).2, qL)] p c2 ns2)) D σ H1) fun pins s1 σ H1 D I q => ?rest)), ?_⟩
  case rest =>
    obtain ⟨p, c2, ns2, en, q⟩ := q
    exact (r_law (hd_ok (Bn _ p c2 ns2 rm) (Mf _ p c2 ns2) F__law_heard gl__law_heard) tb2 (List.mem_cons_self ..) (fun q hq _ => by
    rcases List.mem_cons.mp hq with rfl | z
    · rfl
    · cases z) (Bn _ p c2 ns2 rm) (Mf _ p c2 ns2) (h__law_pick _ p c2 ns2) (h_plain_bears _ p c2 ns2) (h_plain_ends _ p c2 ns2) (h_plain_pairs _ p c2 ns2) (h_least_plain _ p c2 ns2) (kw_k_plain_pairs_3210 F_plain_pairs) (kw_k_least_plain_210 F_least_plain)).run pins s1 σ H1 D I q
  refine ⟨.ref a, rfl, a, ns, rfl, hS, hl, fun c2 p H1 ne hc hp ec ep kp => ⟨p, c2, ns, ⟨H1, fun _ => none, []⟩, fun _ => none, ⟨[.un, .fz .pen, .un, .un, .un, .un, .un, .un, .un, .un, .un, .un], 12⟩, { nx := fun _ => False, rt := fun d _ => d = .bl true }, ?_, p_law, ?_⟩⟩
  · refine ⟨⟨fun _ _ z => (nomatch z), fun _ _ z => (nomatch z), rfl, ⟨0, 0, ep, Int.le_refl _, Int.le_refl _, by decide⟩, ⟨.of ec, ne, hl⟩, ?_⟩, Sub.refl _, ⟨.of ec, ne, hl⟩, Keep.refl _ _, fun _ z => z, fun _ _ z => (nomatch z), rfl, fun i d z => ?_, fun i ds z => ?_, fun i j ds es l _ z => ?_, fun q hq => (nomatch hq)⟩
    · intro q hq
      rcases List.mem_cons.mp hq with rfl | z
      · exact ⟨#[], kp _ _ (hT _ (List.mem_cons_self ..)), True.intro, fun pos cv e => (nomatch e)⟩
      · cases z
    · match i, z with
      | 0, z => cases z
      | 1, z => 
        cases z
        exact ⟨.ref p, rfl, rfl⟩
      | 2, z => cases z
      | 3, z => cases z
      | 4, z => cases z
      | 5, z => cases z
      | 6, z => cases z
      | 7, z => cases z
      | 8, z => cases z
      | 9, z => cases z
      | 10, z => cases z
      | 11, z => cases z
      | _ + 12, z => cases z
    · match i, z with
      | 0, z => cases z
      | 1, z => cases z
      | 2, z => cases z
      | 3, z => cases z
      | 4, z => cases z
      | 5, z => cases z
      | 6, z => cases z
      | 7, z => cases z
      | 8, z => cases z
      | 9, z => cases z
      | 10, z => cases z
      | 11, z => cases z
      | _ + 12, z => cases z
    · match i, z with
      | 0, z => cases z
      | 1, z => cases z
      | 2, z => cases z
      | 3, z => cases z
      | 4, z => cases z
      | 5, z => cases z
      | 6, z => cases z
      | 7, z => cases z
      | 8, z => cases z
      | 9, z => cases z
      | 10, z => cases z
      | 11, z => cases z
      | _ + 12, z => cases z
  · exact ⟨fun _ _ _ _ z => z.elim, fun _ _ _ _ z => z.elim, fun _ _ _ _ z => z.elim, fun d st v σ F2 H2 z _ _ rv => by
    cases z
    cases (show v = .bl true from rv)
    exact hQ H2, fun _ _ _ _ _ _ _ z => z.elim⟩
end
end As
open PySem
open PySem.W
open PySem.Calls
open PyProof.Rows
theorem PySem.Challenge.cw_staytrue_k61_whole_least_plain_rules_holds : PySem.Challenge.rw_staytrue_k61_whole_least_plain_rules.Holds := by
  w_on; o_law
  refine HandSHeadRun.head_any (r := Hd.R) (q := view Hd.R.prog [Hx.li]) (H := Hx.hk) (ob := Hx.ob) (loose := Hd.loose) (d := HandSHeadRun.topDef Hd.R.prog Hx.li) (kwd := []) Hx.ob_eq (by kernel_rfl) (fun s => by kernel_rfl) Hx.run (by kernel_rfl) (by kernel_rfl) (by kernel_rfl) (by rfl)
    (by first | assumption | decide +kernel) (by decide +kernel) ⟨rfl, rfl, rfl, rfl, rfl, by decide +kernel⟩ ?wit ?call
  case wit => w_witness2
  case call =>
    refine Dl.walkR (l := PySem.Challenge.rw_staytrue_k61_whole_least_plain_rules) (n := 63) (k := 9) (x := "script") rfl (by decide) (by kernel_rfl) ⟨rfl, by decide, by decide⟩ fun w mg fa h Y G hm => ?_
    obtain ⟨K, X, c⟩ := Y
    have hm2 : mg ("law" : PySem.Str) = some (.ref fa) := by
      have e : (HandSHeadRun.topDef Hd.R.prog Hx.li).name = ("law" : PySem.Str) := by kernel_rfl
      rw [← e]
      exact hm
    obtain ⟨fd, F⟩ := c.x.t.d.def_ 13 (d := Hd.d_law) rfl
    have z := hm2.symm.trans (He.glo_ok X G (c.x.t.d.fact 29 (f := .glo "law") rfl))
    cases z
    refine ⟨K, fd, Hd.tf.map (He.cT K), As.spLaw K (Hd.tf.map fun p => (He.cT K p).2), X, fun p hp => ?_, fun p hp => ?_, fun p hp => ?_, fun s u => ?_, fun H a ns hl hT hS => ⟨a, ns, rfl, hS, hl, fun p hp => ?_, fun _ => rfl⟩, fun base bX bG tb => As.ok_law X G c bX bG (fun p hp => tb _ (List.mem_map_of_mem hp)) F⟩
    · obtain ⟨q, hq, rfl⟩ := List.mem_map.mp hp
      exact c.x.empty q hq
    · obtain ⟨q, hq, rfl⟩ := List.mem_map.mp hp
      exact c.x.out q hq
    · obtain ⟨q, hq, rfl⟩ := List.mem_map.mp hp
      exact PySem.W.codeHd_of_K X (c.x.hd q hq)
    · exact (L2.FunD.bindsA (ps := ["script"]) F fun _ _ _ _ _ _ us hl => match us, hl with | [_], _ => rfl) s [u] rfl
    · obtain ⟨q, hq, rfl⟩ := List.mem_map.mp hp
      exact hT (He.cT K q) (List.mem_map_of_mem hq)
