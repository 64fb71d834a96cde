import PyProof.Rows.All
import Wide.All
import OpenK.AllK
import Wide.FinOn
import HandS.ForMost
import HandS.ForExc
import HandS.Nested
import HandS.EndTab
import HandS.IsInst
import HandS.CallSlots
import HandS.TupMul
import HandS.Text
import HandS.Conv
import HandS.TupAny
import KE.KTupSum
import KE.KExcIs
import HandS.WordsExc
import KE.KExcSuper
import KE.KSuper
import HandS.ExcInit
import HandS.ExcIs
import HandS.ExcField
import HandS.ExcValue
import HandS.Deep
import PyProof.ReprRoads
import HandS.EndBits
import HandS.Head0
import HandS.Head1
import HandS.Head2
import HandS.HeadHook1
import HandS.Defaults
import HandS.NamedTupSort
import HandS.RaiseMore
import KE.KNestM
import HandS.Star
import HandS.Style
import HandS.Zip
import PyProof.EnumIter
import KE.GoesMore
import PySem.Challenge.RW_onebasis_k03_whole_rules_joined_and_clos
set_option Elab.async false
set_option linter.all false
set_option maxRecDepth 100000
set_option maxHeartbeats 4000000
namespace DL
open PySem L2 LamX NdefX

/-! ### data -/
inductive D where
  | non | bl (b : Bool) | int (i : Int) | str (x : Str)
  | tup (l : List D) | lst (l : List D) | dct (kvs : List (D × D))
  | ins (C : Addr) (fs : List (Str × D))
  | exc (C : Addr) (fs : List (Str × D))
  | insA (a : Addr) (C : Addr) (fs : List (Str × D))
  | clo (k : Nat) (cs : List (Str × Addr))
  | box (n : Nat)
  | fn (x : Str)

/-- an error: its class, its attributes -/
structure Err where
  C : Addr
  fs : List (Str × D)

/-- a closure's words -/
structure CloS where
  name : Str
  qual : Str
  params : Arguments
  body : FuncBody
  scope : Scope

/-- what is the same through the whole program: the code tables, the closures' words, the classes -/
structure Gl0 where
  T : List NTab
  S : Nat → Option CloS
  insC : Addr → Prop
  excC : Addr → Prop
  attr : Addr → Str → Prop
  isa : Value → Value → Option Bool
  clsU : Value → Prop
  fnv : Str → Addr → Prop := fun _ _ => False

def NT (o : HO) : Prop := ∀ ps, o ≠ .tbl ps
/-- what callees share with their callers: W may be changed by them; inv holds of it; bx names objects -/
structure B where
  W : Addr → Prop
  inv : Hp → Prop
  bx : Nat → Addr → Prop
  hinv : ∀ H H' : Hp, (∀ a o, W a → H a = some o → H' a = some o) → inv H → inv H'
/-- a context: M may not be told of as data -/
structure G extends B where
  M : Addr → Prop
  hW : ∀ a, W a → M a
  /-- what the caller has framed -/
  z : Hp → (Addr → Prop) → Prop := fun _ _ => True
  hz : ∀ (H H' : Hp) (R R' : Addr → Prop), (∀ a o, ¬ R a → H a = some o → NT o → H' a = some o ∧ ¬ R' a) → z H R → z H' R' := by exact fun _ _ _ _ _ _ => trivial

abbrev St := L2.St
/-- all but the tables and what W tells of stays; nothing is gone -/
structure Ext (W : Addr → Prop) (H H' : Hp) : Prop where
  keep : ∀ a o, H a = some o → NT o → ¬ W a → H' a = some o
  gone : ∀ a, H' a = none → H a = none
theorem gone_upd {H : Hp} {p a : Addr} {o : HO} (h : upd H p o a = none) : H a = none := by
  by_cases e : a = p
  · rw [e, upd_same] at h; cases h
  · rw [upd_ne e] at h; exact h
theorem Ext.refl (W : Addr → Prop) (H : Hp) : Ext W H H := ⟨fun _ _ h _ _ => h, fun _ h => h⟩
theorem Ext.trans {W : Addr → Prop} {H H1 H2 : Hp} (a : Ext W H H1) (b : Ext W H1 H2) : Ext W H H2 := ⟨fun c o h n w => b.keep c o (a.keep c o h n w) n w, fun c h => a.gone c (b.gone c h)⟩
theorem Ext.new {W : Addr → Prop} {H : Hp} {p : Addr} {o : HO} (h : H p = none) : Ext W H (upd H p o) := ⟨fun a u e _ _ => by
  rw [upd_ne (ne_of_none e h)]; exact e, fun a => gone_upd⟩
theorem Ext.mut {W : Addr → Prop} {H H' : Hp} {p : Addr} {o : HO} (e : Ext W H H') (h : H p = none) : Ext W H (upd H' p o) := ⟨fun a u ha n w => by
  rw [upd_ne (ne_of_none ha h)]; exact e.keep a u ha n w, fun a q => e.gone a (gone_upd q)⟩
theorem Ext.ofN {W : Addr → Prop} {H H' : Hp} (e : ExtN H H') (k : ∀ a, H' a = none → H a = none) : Ext W H H' := ⟨fun a o h n _ => e a o h n, k⟩
theorem Ext.ofSame {W : Addr → Prop} {H H' : Hp} (e : ∀ b o, H b = some o → H' b = some o) : Ext W H H' := ⟨fun a o h _ _ => e a o h, fun a h => by
  cases q : H a with
  | none => rfl
  | some o => rw [e a o q] at h; cases h⟩

/-- a closure's object; a captured cell -/
def CloO (f : Addr) (S : CloS) (cl : List (Str × Addr)) (c : Addr) : HO := .ext fun h => ∃ (od : Option Addr) (sl : Array (Option Value)) (doc pm ctv : Value),
  h.get? f = some (⟨.type "function", od, .func { name := S.name, qualname := S.qual, params := S.params, body := S.body, scope := S.scope, globals := mainGlobals, closure := cl, defaults := .none, kwdefaults := .none, doc := doc, pyModule := pm, annotations := none, code := .ref c, closureTuple := ctv, builtins := builtinsNs }, sl⟩ : Obj)
def CelO (c : Addr) (o : Obj) : HO := .ext fun h => h.get? c = some o
/-- an exception's object, made or caught -/
def ExvO (a C : Addr) (dd : Option Addr) : HO := .ext fun h => ∃ (oe : Obj) (vs : Array Value), h.get? a = some oe ∧ oe.cls = .ref C ∧ oe.dict = dd ∧ oe.data = .fields vs
theorem NT.ext {φ : Heap → Prop} : NT (.ext φ) := fun _ z => by cases z
theorem NT.lst {xs : List V} : NT (.lst xs) := fun _ z => by cases z
theorem NT.tup {xs : List V} : NT (.tup xs) := fun _ z => by cases z
theorem NT.frz {o : Obj} {u : HO} : NT (.frz o u) := fun _ z => by cases z
theorem NT.ins {C dx : Addr} {fs : List (Str × V)} : NT (.ins C dx fs) := fun _ z => by cases z
theorem NT.dK {kvs : List (Key × V)} : NT (.dK kvs) := fun _ z => by cases z
theorem NT.dT {kvs : List (List Key × V)} : NT (.dT kvs) := fun _ z => by cases z
theorem NT.xd {fs : List (Str × V)} : NT (.xd fs) := fun _ z => by cases z
/-- what a telling leans on: no table, nothing locked -/
structure NM (o : HO) : Prop where
  nt : NT o
  nf : ∀ ob u, o ≠ .frz ob u
theorem NM.ext {φ : Heap → Prop} : NM (.ext φ) := ⟨NT.ext, fun _ _ z => by cases z⟩
theorem NM.lst {xs : List V} : NM (.lst xs) := ⟨NT.lst, fun _ _ z => by cases z⟩
theorem NM.tup {xs : List V} : NM (.tup xs) := ⟨NT.tup, fun _ _ z => by cases z⟩
theorem NM.ins {C dx : Addr} {fs : List (Str × V)} : NM (.ins C dx fs) := ⟨NT.ins, fun _ _ z => by cases z⟩
theorem NM.dK {kvs : List (Key × V)} : NM (.dK kvs) := ⟨NT.dK, fun _ _ z => by cases z⟩
theorem NM.dT {kvs : List (List Key × V)} : NM (.dT kvs) := ⟨NT.dT, fun _ _ z => by cases z⟩
theorem NM.xd {fs : List (Str × V)} : NM (.xd fs) := ⟨NT.xd, fun _ _ z => by cases z⟩
/-- what may be left out: no table, no thing that is known by a predicate alone -/
structure NR (o : HO) : Prop where
  nt : NT o
  ne : ∀ φ, o ≠ .ext φ
theorem NR.lst {xs : List V} : NR (.lst xs) := ⟨NT.lst, fun _ z => by cases z⟩
theorem NR.tup {xs : List V} : NR (.tup xs) := ⟨NT.tup, fun _ z => by cases z⟩
theorem NR.frz {o : Obj} {u : HO} : NR (.frz o u) := ⟨NT.frz, fun _ z => by cases z⟩
theorem NR.ins {C dx : Addr} {fs : List (Str × V)} : NR (.ins C dx fs) := ⟨NT.ins, fun _ z => by cases z⟩
theorem NR.dK {kvs : List (Key × V)} : NR (.dK kvs) := ⟨NT.dK, fun _ z => by cases z⟩
theorem NR.dT {kvs : List (List Key × V)} : NR (.dT kvs) := ⟨NT.dT, fun _ z => by cases z⟩

def keyD : Key → D
  | .inl i => .int i
  | .inr x => .str x

/-! ### what a value tells -/
mutual
inductive Den (P : Gl0) (g : G) (R : Addr → Prop) (H : Hp) : V → D → Prop
  | non : Den P g R H .non .non
  | bl {b : Bool} : Den P g R H (.bl b) (.bl b)
  | int {i : Int} : Den P g R H (.int i) (.int i)
  | str {x : Str} : Den P g R H (.str x) (.str x)
  | tup {a : Addr} {vs : List V} {l : List D} : ¬ R a → H a = some (.tup vs) → DenL P g R H vs l → Den P g R H (.ref a) (.tup l)
  | lst {a : Addr} {vs : List V} {l : List D} : ¬ R a → H a = some (.lst vs) → DenL P g R H vs l → Den P g R H (.ref a) (.lst l)
  | dK {a : Addr} {kvs : List (Key × V)} {l : List D} : ¬ R a → H a = some (.dK kvs) → DenL P g R H (kvs.map (·.2)) l → (kvs.map (·.1)).Nodup → Den P g R H (.ref a) (.dct ((kvs.map fun p => keyD p.1).zip l))
  | dT {a : Addr} {kvs : List (List Key × V)} {l : List D} : ¬ R a → H a = some (.dT kvs) → DenL P g R H (kvs.map (·.2)) l → (kvs.map (·.1)).Nodup → Den P g R H (.ref a) (.dct ((kvs.map fun p => D.tup (p.1.map keyD)).zip l))
  | ins {a C dx : Addr} {vs : List (Str × V)} {fs : List (Str × D)} : ¬ R a → H a = some (.ins C dx vs) → DenF P g R H vs fs → Den P g R H (.ref a) (.ins C fs)
  | insA {a C dx : Addr} {vs : List (Str × V)} {fs : List (Str × D)} : ¬ R a → H a = some (.ins C dx vs) → DenF P g R H vs fs → Den P g R H (.ref a) (.insA a C fs)
  | exc0 {a C : Addr} : ¬ R a → H a = some (ExvO a C none) → Den P g R H (.ref a) (.exc C [])
  | exc {a C d : Addr} {vs : List (Str × V)} {fs : List (Str × D)} : ¬ R a → ¬ R d → H a = some (ExvO a C (some d)) → H d = some (.xd vs) → DenF P g R H vs fs → Den P g R H (.ref a) (.exc C fs)
  | box {a : Addr} {n : Nat} : g.bx n a → Den P g R H (.ref a) (.box n)
  | fn {a : Addr} {x : Str} : P.fnv x a → Den P g R H (.ref a) (.fn x)
  | clo {f c : Addr} {k : Nat} {S : CloS} {cs : List (Str × Addr)} : P.S k = some S → ¬ R f → ¬ R c → H f = some (CloO f S (cloFrom cs S.scope.names []) c) → H c = some (CodeO c S.qual) → Den P g R H (.ref f) (.clo k cs)
inductive DenL (P : Gl0) (g : G) (R : Addr → Prop) (H : Hp) : List V → List D → Prop
  | nil : DenL P g R H [] []
  | cons {v : V} {vs : List V} {d : D} {ds : List D} : Den P g R H v d → DenL P g R H vs ds → DenL P g R H (v :: vs) (d :: ds)
inductive DenF (P : Gl0) (g : G) (R : Addr → Prop) (H : Hp) : List (Str × V) → List (Str × D) → Prop
  | nil : DenF P g R H [] []
  | cons {f : Str} {v : V} {vs : List (Str × V)} {d : D} {ds : List (Str × D)} : Den P g R H v d → DenF P g R H vs ds → DenF P g R H ((f, v) :: vs) ((f, d) :: ds)
end

section
variable {P : Gl0} {g : G} {R R' W : Addr → Prop} {H H' : Hp}
/-- what leads from one telling to another -/
structure Mv (g g' : G) (R R' : Addr → Prop) (H H' : Hp) : Prop where
  at_ : ∀ a o, ¬ R a → H a = some o → NM o → H' a = some o ∧ ¬ R' a
  bx : ∀ n a, g.bx n a → g'.bx n a
mutual
theorem Den.mv {g' : G} (m : Mv g g' R R' H H') : ∀ {v : V} {d : D}, Den P g R H v d → Den P g' R' H' v d
  | _, _, .non => .non
  | _, _, .bl => .bl
  | _, _, .int => .int
  | _, _, .str => .str
  | _, _, .tup n h l => .tup (m.at_ _ _ n h NM.tup).2 (m.at_ _ _ n h NM.tup).1 (DenL.mv m l)
  | _, _, .lst n h l => .lst (m.at_ _ _ n h NM.lst).2 (m.at_ _ _ n h NM.lst).1 (DenL.mv m l)
  | _, _, .dK n h l u => .dK (m.at_ _ _ n h NM.dK).2 (m.at_ _ _ n h NM.dK).1 (DenL.mv m l) u
  | _, _, .dT n h l u => .dT (m.at_ _ _ n h NM.dT).2 (m.at_ _ _ n h NM.dT).1 (DenL.mv m l) u
  | _, _, .ins n h l => .ins (m.at_ _ _ n h NM.ins).2 (m.at_ _ _ n h NM.ins).1 (DenF.mv m l)
  | _, _, .insA n h l => .insA (m.at_ _ _ n h NM.ins).2 (m.at_ _ _ n h NM.ins).1 (DenF.mv m l)
  | _, _, .exc0 n h => .exc0 (m.at_ _ _ n h NM.ext).2 (m.at_ _ _ n h NM.ext).1
  | _, _, .exc n n' h h' l => .exc (m.at_ _ _ n h NM.ext).2 (m.at_ _ _ n' h' NM.xd).2 (m.at_ _ _ n h NM.ext).1 (m.at_ _ _ n' h' NM.xd).1 (DenF.mv m l)
  | _, _, .box b => .box (m.bx _ _ b)
  | _, _, .fn b => .fn b
  | _, _, .clo s n n' h h' => .clo s (m.at_ _ _ n h NM.ext).2 (m.at_ _ _ n' h' NM.ext).2 (m.at_ _ _ n h NM.ext).1 (m.at_ _ _ n' h' NM.ext).1
theorem DenL.mv {g' : G} (m : Mv g g' R R' H H') : ∀ {vs : List V} {ds : List D}, DenL P g R H vs ds → DenL P g' R' H' vs ds
  | _, _, .nil => .nil
  | _, _, .cons h t => .cons (Den.mv m h) (DenL.mv m t)
theorem DenF.mv {g' : G} (m : Mv g g' R R' H H') : ∀ {vs : List (Str × V)} {ds : List (Str × D)}, DenF P g R H vs ds → DenF P g' R' H' vs ds
  | _, _, .nil => .nil
  | _, _, .cons h t => .cons (Den.mv m h) (DenF.mv m t)
end
theorem Mv.ext (e : Ext W H H') (h : ∀ a, W a → R a) : Mv g g R R H H' := ⟨fun a o n q t => ⟨e.keep a o q t.nt fun w => n (h a w), n⟩, fun _ _ b => b⟩
theorem Mv.sub (h : ∀ a, R' a → R a) : Mv g g R R' H H := ⟨fun a o n q _ => ⟨q, fun w => n (h a w)⟩, fun _ _ b => b⟩
/-- what is new is not told of -/
theorem Mv.excl {p : Addr} (h : H p = none) : Mv g g R (fun a => R a ∨ a = p) H H := ⟨fun a o n q _ => ⟨q, fun w => w.elim n fun e => by rw [e, h] at q; cases q⟩, fun _ _ b => b⟩
theorem Mv.trans {g' g'' : G} {R'' : Addr → Prop} {H'' : Hp} (a : Mv g g' R R' H H') (b : Mv g' g'' R' R'' H' H'') : Mv g g'' R R'' H H'' :=
  ⟨fun c o n q t => let ⟨h1, h2⟩ := a.at_ c o n q t; b.at_ c o h2 h1 t, fun n c h => b.bx n c (a.bx n c h)⟩

theorem DenL.length : ∀ {vs : List V} {ds : List D}, DenL P g R H vs ds → vs.length = ds.length
  | _, _, .nil => rfl
  | _, _, .cons _ t => by simp [DenL.length t]
theorem DenL.get : ∀ {vs : List V} {ds : List D} {i : Nat} {d : D}, DenL P g R H vs ds → ds[i]? = some d → ∃ v, vs[i]? = some v ∧ Den P g R H v d
  | _, _, _, _, .nil, e => by simp at e
  | _, _, 0, _, .cons h _, e => by simp at e; subst e; exact ⟨_, rfl, h⟩
  | _, _, i + 1, d, .cons _ t, e => by
    obtain ⟨v, h1, h2⟩ := DenL.get (i := i) (d := d) t (by simpa using e)
    exact ⟨v, by simpa using h1, h2⟩
theorem DenL.get' : ∀ {vs : List V} {ds : List D} {i : Nat} {v : V}, DenL P g R H vs ds → vs[i]? = some v → ∃ d, ds[i]? = some d ∧ Den P g R H v d
  | _, _, _, _, .nil, e => by simp at e
  | _, _, 0, _, .cons h _, e => by simp at e; subst e; exact ⟨_, rfl, h⟩
  | _, _, i + 1, v, .cons _ t, e => by
    obtain ⟨d, h1, h2⟩ := DenL.get' (i := i) (v := v) t (by simpa using e)
    exact ⟨d, by simpa using h1, h2⟩
theorem DenL.append : ∀ {vs ws : List V} {ds es : List D}, DenL P g R H vs ds → DenL P g R H ws es → DenL P g R H (vs ++ ws) (ds ++ es)
  | _, _, _, _, .nil, s => s
  | _, _, _, _, .cons h t, s => .cons h (DenL.append t s)
theorem DenL.take : ∀ {vs : List V} {ds : List D} (n : Nat), DenL P g R H vs ds → DenL P g R H (vs.take n) (ds.take n)
  | _, _, 0, _ => .nil
  | _, _, _ + 1, .nil => .nil
  | _, _, n + 1, .cons h t => .cons h (DenL.take n t)
theorem DenL.drop : ∀ {vs : List V} {ds : List D} (n : Nat), DenL P g R H vs ds → DenL P g R H (vs.drop n) (ds.drop n)
  | _, _, 0, r => r
  | _, _, _ + 1, .nil => .nil
  | _, _, n + 1, .cons _ t => DenL.drop n t
theorem DenL.set {v : V} {d : D} (h : Den P g R H v d) : ∀ {vs : List V} {ds : List D} (i : Nat), DenL P g R H vs ds → DenL P g R H (vs.set i v) (ds.set i d)
  | _, _, _, .nil => .nil
  | _, _, 0, .cons _ t => .cons h t
  | _, _, i + 1, .cons q t => .cons q (DenL.set h i t)
theorem DenL.ints : ∀ {vs : List V} {ns : List Int}, DenL P g R H vs (ns.map D.int) → vs = ns.map V.int
  | vs, [], h => by cases h; rfl
  | vs, n :: ns, h => by
    cases h with
    | cons h t => cases h; rw [DenL.ints t]; rfl
theorem DenL.bls : ∀ {vs : List V} {ns : List Bool}, DenL P g R H vs (ns.map D.bl) → vs = ns.map V.bl
  | vs, [], h => by cases h; rfl
  | vs, n :: ns, h => by
    cases h with
    | cons h t => cases h; rw [DenL.bls t]; rfl
theorem DenF.lookup : ∀ {vs : List (Str × V)} {fs : List (Str × D)} {f : Str} {d : D}, DenF P g R H vs fs → fs.lookup f = some d → ∃ v, vs.lookup f = some v ∧ Den P g R H v d
  | _, _, _, _, .nil, e => by simp at e
  | (f', v) :: vs, (_, d') :: fs, f, d, .cons h t, e => by
    rw [List.lookup_cons] at e ⊢
    split at e
    · cases e
      exact ⟨v, rfl, h⟩
    · exact DenF.lookup t e
theorem DenF.lookup_none : ∀ {vs : List (Str × V)} {fs : List (Str × D)} {f : Str}, DenF P g R H vs fs → fs.lookup f = none → vs.lookup f = none
  | _, _, _, .nil, _ => rfl
  | (f', v) :: vs, (_, d') :: fs, f, .cons h t, e => by
    rw [List.lookup_cons] at e ⊢
    split at e
    · cases e
    · exact DenF.lookup_none t e
/-- shapes -/
theorem Den.of_int {v : V} {i : Int} (h : Den P g R H v (.int i)) : v = .int i := by cases h; rfl
theorem Den.of_bl {v : V} {b : Bool} (h : Den P g R H v (.bl b)) : v = .bl b := by cases h; rfl
theorem Den.of_str {v : V} {x : Str} (h : Den P g R H v (.str x)) : v = .str x := by cases h; rfl
theorem Den.of_non {v : V} (h : Den P g R H v .non) : v = .non := by cases h; rfl
theorem Den.of_tup {v : V} {l : List D} (h : Den P g R H v (.tup l)) : ∃ a vs, v = .ref a ∧ ¬ R a ∧ H a = some (.tup vs) ∧ DenL P g R H vs l := by
  cases h with
  | tup n r t => exact ⟨_, _, rfl, n, r, t⟩
theorem Den.of_lst {v : V} {l : List D} (h : Den P g R H v (.lst l)) : ∃ a vs, v = .ref a ∧ ¬ R a ∧ H a = some (.lst vs) ∧ DenL P g R H vs l := by
  cases h with
  | lst n r t => exact ⟨_, _, rfl, n, r, t⟩
theorem Den.of_ins {v : V} {C : Addr} {fs : List (Str × D)} (h : Den P g R H v (.ins C fs)) : ∃ a dx vs, v = .ref a ∧ ¬ R a ∧ H a = some (.ins C dx vs) ∧ DenF P g R H vs fs := by
  cases h with
  | ins n r t => exact ⟨_, _, _, rfl, n, r, t⟩
end
end DL

set_option maxRecDepth 100000
set_option maxHeartbeats 4000000
namespace DL
open PySem L2 LamX NdefX

/-! ### slots: unknown, a value, an object of one's own -/
inductive Sl where
  | u | v (d : D) | own (d : D)
abbrev SS := List Sl

def ownA (σ : St) (ss : SS) (a : Addr) : Prop := ∃ (i : Nat) (d : D), ss[i]? = some (Sl.own d) ∧ σ[i]? = some (some (V.ref a))
/-- what is left out besides, and what is framed -/
structure Ex where
  x : Addr → Prop
  z : Hp → (Addr → Prop) → Prop
  hz : ∀ (H H' : Hp) (R R' : Addr → Prop), (∀ a o, ¬ R a → H a = some o → NT o → H' a = some o ∧ ¬ R' a) → z H R → z H' R'
def Ex.none : Ex := ⟨fun _ => False, fun _ _ => True, fun _ _ _ _ _ _ => trivial⟩
/-- what may not be told of -/
def Rg (g : G) (E : Ex) (σ : St) (ss : SS) (a : Addr) : Prop := g.M a ∨ E.x a ∨ ownA σ ss a
/-- a mutable object's content -/
inductive Cont (P : Gl0) (g : G) (R : Addr → Prop) (H : Hp) (p : Addr) : D → Prop
  | lst {vs : List V} {l : List D} : H p = some (.lst vs) → DenL P g R H vs l → Cont P g R H p (.lst l)
  | dK {kvs : List (Key × V)} {l : List D} : H p = some (.dK kvs) → DenL P g R H (kvs.map (·.2)) l → (kvs.map (·.1)).Nodup → Cont P g R H p (.dct ((kvs.map fun p => keyD p.1).zip l))
  | dT {kvs : List (List Key × V)} {l : List D} : H p = some (.dT kvs) → DenL P g R H (kvs.map (·.2)) l → (kvs.map (·.1)).Nodup → Cont P g R H p (.dct ((kvs.map fun p => D.tup (p.1.map keyD)).zip l))
  | ins {C dx : Addr} {vs : List (Str × V)} {fs : List (Str × D)} : H p = some (.ins C dx vs) → DenF P g R H vs fs → Cont P g R H p (.ins C fs)
  | insA {C dx : Addr} {vs : List (Str × V)} {fs : List (Str × D)} : H p = some (.ins C dx vs) → DenF P g R H vs fs → Cont P g R H p (.insA p C fs)
theorem Cont.there {P : Gl0} {g : G} {R : Addr → Prop} {H : Hp} {p : Addr} {d : D} (c : Cont P g R H p d) : ∃ o, H p = some o ∧ NT o := by
  cases c with
  | lst h _ => exact ⟨_, h, NT.lst⟩
  | dK h _ _ => exact ⟨_, h, NT.dK⟩
  | dT h _ _ => exact ⟨_, h, NT.dT⟩
  | ins h _ => exact ⟨_, h, NT.ins⟩
  | insA h _ => exact ⟨_, h, NT.ins⟩
theorem Cont.den {P : Gl0} {g : G} {R : Addr → Prop} {H : Hp} {p : Addr} {d : D} (c : Cont P g R H p d) (n : ¬ R p) : Den P g R H (.ref p) d := by
  cases c with
  | lst h l => exact .lst n h l
  | dK h l u => exact .dK n h l u
  | dT h l u => exact .dT n h l u
  | ins h l => exact .ins n h l
  | insA h l => exact .insA n h l
theorem Cont.mv {P : Gl0} {g g' : G} {R R' : Addr → Prop} {H H' : Hp} {p : Addr} {d : D} (m : Mv g g' R R' H H') (e : ∀ o, H p = some o → NT o → H' p = some o) (c : Cont P g R H p d) : Cont P g' R' H' p d := by
  cases c with
  | lst h l => exact .lst (e _ h NT.lst) (DenL.mv m l)
  | dK h l u => exact .dK (e _ h NT.dK) (DenL.mv m l) u
  | dT h l u => exact .dT (e _ h NT.dT) (DenL.mv m l) u
  | ins h l => exact .ins (e _ h NT.ins) (DenF.mv m l)
  | insA h l => exact .insA (e _ h NT.ins) (DenF.mv m l)

/-- the heap, without the slots -/
structure SG (P : Gl0) (g : G) (R : Addr → Prop) (H : Hp) : Prop where
  tabs : TabsN P.T H
  inv : g.inv H
  trk : ∀ a, R a → ∃ o, H a = some o ∧ NR o
  pin : g.z H R
/-- THE STATE: E is left out besides, H0 the heap at the entry -/
structure Stt (P : Gl0) (g : G) (E : Ex) (H0 : Hp) (ss : SS) (σ : St) (H : Hp) : Prop where
  sg : SG P g (Rg g E σ ss) H
  pin : E.z H (Rg g E σ ss)
  grow : Ext g.W H0 H
  len : ss.length = σ.length
  val : ∀ (i : Nat) (d : D), ss[i]? = some (.v d) → ∃ v, σ[i]? = some (some v) ∧ Den P g (Rg g E σ ss) H v d
  own : ∀ (i : Nat) (d : D), ss[i]? = some (.own d) → ∃ p, σ[i]? = some (some (.ref p)) ∧ H0 p = none ∧ ¬ g.M p ∧ ¬ E.x p ∧ Cont P g (Rg g E σ ss) H p d
  uniq : ∀ (i j : Nat) (d e : D) (a : Addr), ss[i]? = some (.own d) → ss[j]? = some (.own e) → σ[i]? = some (some (.ref a)) → σ[j]? = some (some (.ref a)) → i = j

section
variable {P : Gl0} {g : G} {E E' : Ex} {H0 H H' : Hp} {ss ss' : SS} {σ σ' : St}
theorem Rg.M {a : Addr} (h : g.M a) : Rg g E σ ss a := .inl h
theorem Rg.W {a : Addr} (h : g.W a) : Rg g E σ ss a := .inl (g.hW a h)
theorem Ext.inv (e : Ext g.W H H') (hw : ∀ a o, g.W a → H a = some o → H' a = some o) (h : g.inv H) : g.inv H' := g.hinv H H' hw h
/-- behind a step that keeps all but W -/
theorem Stt.ext (s : Stt P g E H0 ss σ H) (e : Ext g.W H H') (sg : SG P g (Rg g E σ ss) H') : Stt P g E H0 ss σ H' where
  sg := sg
  pin := E.hz _ _ _ _ (fun a o n q t => ⟨e.keep a o q t fun w => n (Rg.W w), n⟩) s.pin
  grow := s.grow.trans e
  len := s.len
  val := fun i d h => let ⟨v, h1, h2⟩ := s.val i d h; ⟨v, h1, Den.mv (Mv.ext e fun a w => Rg.W w) h2⟩
  own := fun i d h => let ⟨p, h1, h2, h3, h4, h5⟩ := s.own i d h
    ⟨p, h1, h2, h3, h4, h5.mv (Mv.ext e fun a w => Rg.W w) fun o q n => e.keep p o q n fun w => h3 (g.hW p w)⟩
  uniq := s.uniq
theorem SG.same {R : Addr → Prop} (s : SG P g R H) (e : ∀ b o, H b = some o → H' b = some o) : SG P g R H' :=
  ⟨s.tabs.ext e, g.hinv _ _ (fun a o _ h => e a o h) s.inv, fun a h => let ⟨o, q, n⟩ := s.trk a h; ⟨o, e a o q, n⟩, g.hz _ _ _ _ (fun a o n q _ => ⟨e a o q, n⟩) s.pin⟩
theorem Stt.same (s : Stt P g E H0 ss σ H) (e : ∀ b o, H b = some o → H' b = some o) : Stt P g E H0 ss σ H' := s.ext (Ext.ofSame e) (s.sg.same e)
theorem pinW {R : Addr → Prop} (hR : ∀ a, g.W a → R a) (e : Ext g.W H H') (h : g.z H R) : g.z H' R := g.hz _ _ _ _ (fun a o n q t => ⟨e.keep a o q t fun w => n (hR a w), n⟩) h
theorem same_new {p : Addr} {o : HO} (h : H p = none) : ∀ b u, H b = some u → upd H p o b = some u := fun b u e => by rw [upd_ne (ne_of_none e h)]; exact e
theorem Stt.new (s : Stt P g E H0 ss σ H) {p : Addr} {o : HO} (h : H p = none) : Stt P g E H0 ss σ (upd H p o) := s.same (same_new h)
theorem Stt.fresh (s : Stt P g E H0 ss σ H) {p : Addr} (h : H p = none) : ¬ Rg g E σ ss p := fun r => by
  obtain ⟨o, q, _⟩ := s.sg.trk p r
  rw [h] at q; cases q
theorem Stt.fresh0 (s : Stt P g E H0 ss σ H) {p : Addr} (h : H p = none) : H0 p = none := s.grow.gone p h

/-! ### readings -/
abbrev TD := SS → (D → Prop) → (Err → SS → Prop) → Prop
abbrev TB := SS → (Bool → Prop) → (Err → SS → Prop) → Prop
abbrev TL := SS → (List D → Prop) → (Err → SS → Prop) → Prop
structure DEnds where
  nx : SS → Prop
  rt : D → Prop
  bk : SS → Prop := fun _ => False
  ct : SS → Prop := fun _ => False
  ex : Err → SS → Prop
abbrev TSt := DEnds → SS → Prop

inductive ErrD (P : Gl0) (g : G) (R : Addr → Prop) (H : Hp) : Value → Option Addr → Err → Prop
  | zero {C : Addr} : ErrD P g R H (.ref C) none ⟨C, []⟩
  | some {C d : Addr} {vs : List (Str × V)} {fs : List (Str × D)} : ¬ R d → H d = some (.xd vs) → DenF P g R H vs fs → ErrD P g R H (.ref C) (some d) ⟨C, fs⟩
theorem ErrD.mv {g' : G} {R R' : Addr → Prop} {c : Value} {d : Option Addr} {e : Err} (m : Mv g g' R R' H H') (h : ErrD P g R H c d e) : ErrD P g' R' H' c d e := by
  cases h with
  | zero => exact .zero
  | some n h l => exact .some (m.at_ _ _ n h NM.xd).2 (m.at_ _ _ n h NM.xd).1 (DenF.mv m l)

/-- the wish of an error, told of the state -/
def WD (P : Gl0) (g : G) (E : Ex) (H0 : Hp) (Qx : Err → SS → Prop) : WX := fun cls dd σ H => ∃ err ss, Stt P g E H0 ss σ H ∧ ErrD P g (Rg g E σ ss) H cls dd err ∧ Qx err ss
def TX (X : Cx) (P : Gl0) (g : G) (E : Ex) (H0 : Hp) (Qx : Err → SS → Prop) : Prop := (∀ e ss, ¬ Qx e ss) ∨ Takes X (WD P g E H0 Qx)

def EPD (P : Gl0) (g : G) (E : Ex) (H0 : Hp) (ss : SS) (σ : St) (H : Hp) (Q : D → Prop) : VK := fun v H' => ∃ d, Stt P g E H0 ss σ H' ∧ Ext g.W H H' ∧ Den P g (Rg g E σ ss) H' v d ∧ Q d
def TPD (P : Gl0) (g : G) (E : Ex) (H0 : Hp) (ss : SS) (σ : St) (H : Hp) (Q : Bool → Prop) : Bool → Hp → Prop := fun b H' => Stt P g E H0 ss σ H' ∧ Ext g.W H H' ∧ Q b
def APD (P : Gl0) (g : G) (E : Ex) (H0 : Hp) (ss : SS) (σ : St) (H : Hp) (Q : List D → Prop) : List V → Hp → Prop := fun vs H' => ∃ ds, Stt P g E H0 ss σ H' ∧ Ext g.W H H' ∧ DenL P g (Rg g E σ ss) H' vs ds ∧ Q ds
def SPD (P : Gl0) (g : G) (E : Ex) (H0 : Hp) (N : DEnds) : Ends where
  nx := fun σ H => ∃ ss, Stt P g E H0 ss σ H ∧ N.nx ss
  bk := fun σ H => ∃ ss, Stt P g E H0 ss σ H ∧ N.bk ss
  ct := fun σ H => ∃ ss, Stt P g E H0 ss σ H ∧ N.ct ss
  rt := fun v H => ∃ d σ ss, Stt P g E H0 ss σ H ∧ Den P g (fun a => g.M a ∨ E.x a) H v d ∧ N.rt d

structure DE (X : Cx) (P : Gl0) (g : G) (e : Expr) (t : TD) : Prop where
  run : ∀ (pins : List (Addr × Obj)) (s : Shared) (σ : St) (H : Hp) (E : Ex) (H0 : Hp) (ss : SS) (Q : D → Prop) (Qx : Err → SS → Prop), Inv X pins σ H s → Stt P g E H0 ss σ H → TX X P g E H0 Qx → t ss Q Qx →
    wpAny (model X.prog X.w) X.A (eval e X.env) (EP X pins σ (EPD P g E H0 ss σ H Q)) X.xe s
structure DT (X : Cx) (P : Gl0) (g : G) (e : Expr) (t : TB) : Prop where
  run : ∀ (pins : List (Addr × Obj)) (s : Shared) (σ : St) (H : Hp) (E : Ex) (H0 : Hp) (ss : SS) (Q : Bool → Prop) (Qx : Err → SS → Prop), Inv X pins σ H s → Stt P g E H0 ss σ H → TX X P g E H0 Qx → t ss Q Qx →
    wpAny (model X.prog X.w) X.A (isTrue e X.env (eval e X.env)) (TP X pins σ (TPD P g E H0 ss σ H Q)) X.xe s
structure DW (X : Cx) (P : Gl0) (g : G) (e : Expr) (t : TB) : Prop where
  run : ∀ (whole : Sem Value) (pins : List (Addr × Obj)) (s : Shared) (σ : St) (H : Hp) (E : Ex) (H0 : Hp) (ss : SS) (Q : Bool → Prop) (Qx : Err → SS → Prop), Inv X pins σ H s → Stt P g E H0 ss σ H → TX X P g E H0 Qx → t ss Q Qx →
    wpAny (model X.prog X.w) X.A (isTrue e X.env whole) (TP X pins σ (TPD P g E H0 ss σ H Q)) X.xe s
structure DA (X : Cx) (P : Gl0) (g : G) (es : List Expr) (t : TL) : Prop where
  run : ∀ (pos : Pos) (pins : List (Addr × Obj)) (s : Shared) (σ : St) (H : Hp) (E : Ex) (H0 : Hp) (ss : SS) (Q : List D → Prop) (Qx : Err → SS → Prop), Inv X pins σ H s → Stt P g E H0 ss σ H → TX X P g E H0 Qx → t ss Q Qx →
    wpAny (model X.prog X.w) X.A (spliced (backTo pos (starEach es X.env))) (AP X pins σ (APD P g E H0 ss σ H Q)) X.xe s
structure DS (X : Cx) (P : Gl0) (g : G) (st : Stmt) (t : TSt) : Prop where
  run : ∀ (pins : List (Addr × Obj)) (s : Shared) (σ : St) (H : Hp) (E : Ex) (H0 : Hp) (ss : SS) (N : DEnds), Inv X pins σ H s → Stt P g E H0 ss σ H → TX X P g E H0 N.ex → t N ss →
    wpAny (model X.prog X.w) X.A (exec st X.env) (SP X pins (SPD P g E H0 N)) X.xe s
structure DSs (X : Cx) (P : Gl0) (g : G) (st : List Stmt) (t : TSt) : Prop where
  run : ∀ (pins : List (Addr × Obj)) (s : Shared) (σ : St) (H : Hp) (E : Ex) (H0 : Hp) (ss : SS) (N : DEnds), Inv X pins σ H s → Stt P g E H0 ss σ H → TX X P g E H0 N.ex → t N ss →
    wpAny (model X.prog X.w) X.A (execs st X.env) (SP X pins (SPD P g E H0 N)) X.xe s

/-! ### to and fro -/
section
variable {X : Cx} {e : Expr} {es : List Expr} {st : Stmt} {sts : List Stmt} {t : TD} {tb : TB} {tl : TL} {ts : TSt}
def upE (X : Cx) (P : Gl0) (g : G) (t : TD) : TE := fun σ H Q => ∃ E H0 ss Qd Qx, Stt P g E H0 ss σ H ∧ TX X P g E H0 Qx ∧ t ss Qd Qx ∧ ∀ v H', EPD P g E H0 ss σ H Qd v H' → Q v H'
def upT (X : Cx) (P : Gl0) (g : G) (t : TB) : TT := fun σ H Q => ∃ E H0 ss Qd Qx, Stt P g E H0 ss σ H ∧ TX X P g E H0 Qx ∧ t ss Qd Qx ∧ ∀ v H', TPD P g E H0 ss σ H Qd v H' → Q v H'
def upA (X : Cx) (P : Gl0) (g : G) (t : TL) : TA := fun σ H Q => ∃ E H0 ss Qd Qx, Stt P g E H0 ss σ H ∧ TX X P g E H0 Qx ∧ t ss Qd Qx ∧ ∀ v H', APD P g E H0 ss σ H Qd v H' → Q v H'
def upS (X : Cx) (P : Gl0) (g : G) (t : TSt) : TS := fun D σ H => ∃ E H0 ss N, Stt P g E H0 ss σ H ∧ TX X P g E H0 N.ex ∧ t N ss ∧ (∀ σ' H', (SPD P g E H0 N).nx σ' H' → D.nx σ' H') ∧ (∀ σ' H', (SPD P g E H0 N).bk σ' H' → D.bk σ' H') ∧ (∀ σ' H', (SPD P g E H0 N).ct σ' H' → D.ct σ' H') ∧ (∀ v H', (SPD P g E H0 N).rt v H' → D.rt v H')
theorem DE.pe (h : DE X P g e t) : PE X e (upE X P g t) := ⟨fun pins s σ H Q I hw => by
  obtain ⟨E, H0, ss, Qd, Qx, S, T, ht, k⟩ := hw
  exact thn (h.run pins s σ H E H0 ss Qd Qx I S T ht) fun u s' ⟨v, H', I', r, q⟩ => ⟨v, H', I', r, k v H' q⟩⟩
theorem DT.pt (h : DT X P g e tb) : PT X e (upT X P g tb) := ⟨fun pins s σ H Q I hw => by
  obtain ⟨E, H0, ss, Qd, Qx, S, T, ht, k⟩ := hw
  exact thn (h.run pins s σ H E H0 ss Qd Qx I S T ht) fun u s' ⟨H', I', q⟩ => ⟨H', I', k u H' q⟩⟩
theorem DW.pw (h : DW X P g e tb) : PW X e (upT X P g tb) := ⟨fun wh pins s σ H Q I hw => by
  obtain ⟨E, H0, ss, Qd, Qx, S, T, ht, k⟩ := hw
  exact thn (h.run wh pins s σ H E H0 ss Qd Qx I S T ht) fun u s' ⟨H', I', q⟩ => ⟨H', I', k u H' q⟩⟩
theorem DW.dt (h : DW X P g e tb) : DT X P g e tb := ⟨h.run _⟩
theorem DA.pa (h : DA X P g es tl) : PA X es (upA X P g tl) := ⟨fun pos pins s σ H Q I hw => by
  obtain ⟨E, H0, ss, Qd, Qx, S, T, ht, k⟩ := hw
  exact thn (h.run pos pins s σ H E H0 ss Qd Qx I S T ht) fun u s' ⟨v, H', I', r, q⟩ => ⟨v, H', I', r, k v H' q⟩⟩
theorem SP.mono {pins : List (Addr × Obj)} {D D' : Ends} {f : Flow} {s' : Shared} (h : SP X pins D f s') (h1 : ∀ σ' H', D.nx σ' H' → D'.nx σ' H') (h2 : ∀ σ' H', D.bk σ' H' → D'.bk σ' H') (h3 : ∀ σ' H', D.ct σ' H' → D'.ct σ' H') (h4 : ∀ v H', D.rt v H' → D'.rt v H') : SP X pins D' f s' := by
  cases f with
  | next => obtain ⟨σ', H', I, q⟩ := h; exact ⟨σ', H', I, h1 _ _ q⟩
  | brk => obtain ⟨σ', H', I, q⟩ := h; exact ⟨σ', H', I, h2 _ _ q⟩
  | cont => obtain ⟨σ', H', I, q⟩ := h; exact ⟨σ', H', I, h3 _ _ q⟩
  | ret u => obtain ⟨v, σ', H', I, r, q⟩ := h; exact ⟨v, σ', H', I, r, h4 _ _ q⟩
theorem DS.ps (h : DS X P g st ts) : PS X st (upS X P g ts) := ⟨fun pins s σ H D I hw => by
  obtain ⟨E, H0, ss, N, S, T, ht, k1, k2, k3, k4⟩ := hw
  exact thn (h.run pins s σ H E H0 ss N I S T ht) fun f s' q => SP.mono q k1 k2 k3 k4⟩
theorem DSs.pss (h : DSs X P g sts ts) : PSs X sts (upS X P g ts) := ⟨fun pins s σ H D I hw => by
  obtain ⟨E, H0, ss, N, S, T, ht, k1, k2, k3, k4⟩ := hw
  exact thn (h.run pins s σ H E H0 ss N I S T ht) fun f s' q => SP.mono q k1 k2 k3 k4⟩
/-- from the layer's rule -/
theorem DE.of {te : TE} (h : PE X e te) (k : ∀ σ H E H0 ss Q Qx, Stt P g E H0 ss σ H → TX X P g E H0 Qx → t ss Q Qx → te σ H (EPD P g E H0 ss σ H Q)) : DE X P g e t :=
  ⟨fun pins s σ H E H0 ss Q Qx I S T ht => h.run pins s σ H _ I (k σ H E H0 ss Q Qx S T ht)⟩
theorem DT.of {te : TT} (h : PT X e te) (k : ∀ σ H E H0 ss Q Qx, Stt P g E H0 ss σ H → TX X P g E H0 Qx → tb ss Q Qx → te σ H (TPD P g E H0 ss σ H Q)) : DT X P g e tb :=
  ⟨fun pins s σ H E H0 ss Q Qx I S T ht => h.run pins s σ H _ I (k σ H E H0 ss Q Qx S T ht)⟩
theorem DW.of {te : TT} (h : PW X e te) (k : ∀ σ H E H0 ss Q Qx, Stt P g E H0 ss σ H → TX X P g E H0 Qx → tb ss Q Qx → te σ H (TPD P g E H0 ss σ H Q)) : DW X P g e tb :=
  ⟨fun wh pins s σ H E H0 ss Q Qx I S T ht => h.run wh pins s σ H _ I (k σ H E H0 ss Q Qx S T ht)⟩
theorem DA.of {te : TA} (h : PA X es te) (k : ∀ σ H E H0 ss Q Qx, Stt P g E H0 ss σ H → TX X P g E H0 Qx → tl ss Q Qx → te σ H (APD P g E H0 ss σ H Q)) : DA X P g es tl :=
  ⟨fun pos pins s σ H E H0 ss Q Qx I S T ht => h.run pos pins s σ H _ I (k σ H E H0 ss Q Qx S T ht)⟩
theorem DS.of {te : TS} (h : PS X st te) (k : ∀ σ H E H0 ss N, Stt P g E H0 ss σ H → TX X P g E H0 N.ex → ts N ss → te (SPD P g E H0 N) σ H) : DS X P g st ts :=
  ⟨fun pins s σ H E H0 ss N I S T ht => h.run pins s σ H _ I (k σ H E H0 ss N S T ht)⟩
theorem DSs.of {te : TS} (h : PSs X sts te) (k : ∀ σ H E H0 ss N, Stt P g E H0 ss σ H → TX X P g E H0 N.ex → ts N ss → te (SPD P g E H0 N) σ H) : DSs X P g sts ts :=
  ⟨fun pins s σ H E H0 ss N I S T ht => h.run pins s σ H _ I (k σ H E H0 ss N S T ht)⟩
/-- running a part's reading -/
theorem upE.run {σ : St} {H : Hp} {E : Ex} {H0 : Hp} {ss : SS} {Q : D → Prop} {Qx : Err → SS → Prop} {K : VK} (S : Stt P g E H0 ss σ H) (T : TX X P g E H0 Qx) (h : t ss Q Qx) (k : ∀ v H' d, Stt P g E H0 ss σ H' → Ext g.W H H' → Den P g (Rg g E σ ss) H' v d → Q d → K v H') : upE X P g t σ H K :=
  ⟨E, H0, ss, Q, Qx, S, T, h, fun v H' ⟨d, a, b, c, q⟩ => k v H' d a b c q⟩
theorem upT.run {σ : St} {H : Hp} {E : Ex} {H0 : Hp} {ss : SS} {Q : Bool → Prop} {Qx : Err → SS → Prop} {K : Bool → Hp → Prop} (S : Stt P g E H0 ss σ H) (T : TX X P g E H0 Qx) (h : tb ss Q Qx) (k : ∀ b H', Stt P g E H0 ss σ H' → Ext g.W H H' → Q b → K b H') : upT X P g tb σ H K :=
  ⟨E, H0, ss, Q, Qx, S, T, h, fun b H' ⟨a, c, q⟩ => k b H' a c q⟩
theorem upA.run {σ : St} {H : Hp} {E : Ex} {H0 : Hp} {ss : SS} {Q : List D → Prop} {Qx : Err → SS → Prop} {K : List V → Hp → Prop} (S : Stt P g E H0 ss σ H) (T : TX X P g E H0 Qx) (h : tl ss Q Qx) (k : ∀ vs H' ds, Stt P g E H0 ss σ H' → Ext g.W H H' → DenL P g (Rg g E σ ss) H' vs ds → Q ds → K vs H') : upA X P g tl σ H K :=
  ⟨E, H0, ss, Q, Qx, S, T, h, fun v H' ⟨d, a, b, c, q⟩ => k v H' d a b c q⟩
theorem upS.run {σ : St} {H : Hp} {E : Ex} {H0 : Hp} {ss : SS} {N : DEnds} {D : Ends} (S : Stt P g E H0 ss σ H) (T : TX X P g E H0 N.ex) (h : ts N ss) (h1 : ∀ σ' H', (SPD P g E H0 N).nx σ' H' → D.nx σ' H') (h2 : ∀ σ' H', (SPD P g E H0 N).bk σ' H' → D.bk σ' H') (h3 : ∀ σ' H', (SPD P g E H0 N).ct σ' H' → D.ct σ' H') (h4 : ∀ v H', (SPD P g E H0 N).rt v H' → D.rt v H') : upS X P g ts D σ H :=
  ⟨E, H0, ss, N, S, T, h, h1, h2, h3, h4⟩
end
theorem den_ext {R : Addr → Prop} {v : V} {d : D} (hR : ∀ a, g.W a → R a) (e : Ext g.W H H') (h : Den P g R H v d) : Den P g R H' v d := Den.mv (Mv.ext e hR) h
end
end DL

set_option maxRecDepth 100000
set_option maxHeartbeats 4000000
namespace DL
open PySem L2 LamX NdefX

section
variable {X : Cx} {P : Gl0} {g : G} {a b c e : Expr} {es : List Expr} {ta tb tc : TD} {tt uu : TB} {tl : TL} {pos : Pos}
variable {E : Ex} {H0 H H1 : Hp} {ss : SS} {σ : St}

theorem EPD.back {Q : D → Prop} {v : V} {H' : Hp} (e : Ext g.W H H1) (h : EPD P g E H0 ss σ H1 Q v H') : EPD P g E H0 ss σ H Q v H' := by
  obtain ⟨d, a, b, c, q⟩ := h
  exact ⟨d, a, e.trans b, c, q⟩
theorem EPD.now {Q : D → Prop} {v : V} {d : D} (S : Stt P g E H0 ss σ H) (n : Den P g (Rg g E σ ss) H v d) (q : Q d) : EPD P g E H0 ss σ H Q v H := ⟨d, S, Ext.refl _ _, n, q⟩
/-- a new list, a new tuple -/
theorem EPD.lst {Q : D → Prop} {p : Addr} {vs : List V} {l : List D} (S : Stt P g E H0 ss σ H) (hp : H p = none) (n : DenL P g (Rg g E σ ss) H vs l) (q : Q (.lst l)) : EPD P g E H0 ss σ H Q (.ref p) (upd H p (.lst vs)) :=
  ⟨_, S.new hp, Ext.new hp, .lst (S.fresh hp) upd_same (DenL.mv (Mv.ext (Ext.new hp) fun a w => Rg.W w) n), q⟩
theorem EPD.tup {Q : D → Prop} {p : Addr} {vs : List V} {l : List D} (S : Stt P g E H0 ss σ H) (hp : H p = none) (n : DenL P g (Rg g E σ ss) H vs l) (q : Q (.tup l)) : EPD P g E H0 ss σ H Q (.ref p) (upd H p (.tup vs)) :=
  ⟨_, S.new hp, Ext.new hp, .tup (S.fresh hp) upd_same (DenL.mv (Mv.ext (Ext.new hp) fun a w => Rg.W w) n), q⟩
theorem den_W {v : V} {d : D} (e : Ext g.W H H1) (h : Den P g (Rg g E σ ss) H v d) : Den P g (Rg g E σ ss) H1 v d := den_ext (fun a w => Rg.W w) e h
theorem denL_W {vs : List V} {ds : List D} (e : Ext g.W H H1) (h : DenL P g (Rg g E σ ss) H vs ds) : DenL P g (Rg g E σ ss) H1 vs ds := DenL.mv (Mv.ext e fun a w => Rg.W w) h

/-! ### names, constants -/
def vV (i : Nat) : TD := fun ss Q _ => match ss[i]? with
  | some (.v d) => Q d
  | _ => False
def vC (d : D) : TD := fun _ Q _ => Q d
theorem d_var (i : Nat) {x : Str} (hN : X.N[i]? = some x := by rfl) (hv : Vis X.env.scope x := by first | exact Or.inl rfl | exact Or.inr (Or.inl rfl) | exact Or.inr (Or.inr rfl)) (hd : (x == ("__debug__" : Str)) = false := by decide) (hcd : (x == ("__classdict__" : Str)) = false := by decide) : DE X P g (.Name x pos) (vV i) :=
  DE.of (pe_var hN hv hd hcd) fun σ H E H0 ss Q Qx S T h => by
    unfold vV at h
    split at h
    · rename_i d hs
      obtain ⟨v, h1, h2⟩ := S.val i d hs
      exact ⟨v, h1, .now S h2 h⟩
    · exact h.elim
theorem d_int {i j} : DE X P g (.Constant (.int i) j pos) (vC (.int i)) := DE.of pe_int fun σ H E H0 ss Q Qx S T h => .now S .int h
theorem d_bl {i j} : DE X P g (.Constant (.bool i) j pos) (vC (.bl i)) := DE.of pe_bl fun σ H E H0 ss Q Qx S T h => .now S .bl h
theorem d_non {j} : DE X P g (.Constant .none j pos) (vC .non) := DE.of pe_non fun σ H E H0 ss Q Qx S T h => .now S .non h
theorem d_str {x j} : DE X P g (.Constant (.str x) j pos) (vC (.str x)) := DE.of pe_str fun σ H E H0 ss Q Qx S T h => .now S .str h
/-- a module's int -/
theorem d_gint {x : Str} {i : Int} {t : Tok} (hg : Gl X x) (hm : X.mg x = some (.int i t)) (hd : (x == ("__debug__" : Str)) = false := by decide) : DE X P g (.Name x pos) (vC (.int i)) :=
  DE.of (pe_glob (v := .int i) hg hm ⟨_, rfl⟩ hd) fun σ H E H0 ss Q Qx S T h => .now S .int h

/-! ### operators -/
abbrev RD := D → D → (D → Prop) → Prop
def OpD (X : Cx) (P : Gl0) (g : G) (f : Value → Value → Sem Value) (r : RD) : Prop :=
  ∃ hr : R2, OpR X f hr ∧ ∀ (σ : St) (H : Hp) (E : Ex) (H0 : Hp) (ss : SS) (x y : V) (dx dy : D) (Q : D → Prop) (K : VK), Stt P g E H0 ss σ H → Den P g (Rg g E σ ss) H x dx → Den P g (Rg g E σ ss) H y dy → r dx dy Q → (∀ v H', EPD P g E H0 ss σ H Q v H' → K v H') → hr x y H K
def vOp (r : RD) (ta tb : TD) : TD := fun ss Q Qx => ta ss (fun x => tb ss (fun y => r x y Q) Qx) Qx
theorem d_op {op : Operator} {r : RD} (ho : OpD X P g (binaryOp op) r) (ha : DE X P g a ta) (hb : DE X P g b tb) : DE X P g (.BinOp a op b pos) (vOp r ta tb) := by
  obtain ⟨hr, h1, h2⟩ := ho
  refine ⟨fun pins s σ H E H0 ss Q Qx I S T h => ?_⟩
  refine wpAny_BinOp ?_
  refine thn (ha.run pins s σ H E H0 ss _ Qx I S T h) fun v s1 ⟨x, H1, I1, r1, dx, S1, e1, n1, q1⟩ => ?_
  refine thn (hb.run pins s1 σ H1 E H0 ss _ Qx I1 S1 T q1) fun u s2 ⟨y, H2, I2, r2, dy, S2, e2, n2, q2⟩ => ?_
  refine thn (h1 pins s2 σ H2 x y v u _ I2 r1 r2 (h2 σ H2 E H0 ss x y dx dy Q _ S2 (den_W e2 n1) n2 q2 fun _ _ z => z)) fun z s3 ⟨w, H3, I3, r3, q3⟩ => ?_
  exact ⟨w, H3, I3, r3, EPD.back (e1.trans e2) q3⟩
theorem d_cmp {op : CmpOp} {r : RD} (ho : OpD X P g (compareOp op) r) (ha : DE X P g a ta) (hb : DE X P g b tb) (hm : behindInMarks op b = false) : DE X P g (.Compare a [op] [b] pos) (vOp r ta tb) := by
  obtain ⟨hr, h1, h2⟩ := ho
  refine ⟨fun pins s σ H E H0 ss Q Qx I S T h => ?_⟩
  refine wpAny_Compare1 ?_ hm
  refine thn (ha.run pins s σ H E H0 ss _ Qx I S T h) fun v s1 ⟨x, H1, I1, r1, dx, S1, e1, n1, q1⟩ => ?_
  refine thn (hb.run pins s1 σ H1 E H0 ss _ Qx I1 S1 T q1) fun u s2 ⟨y, H2, I2, r2, dy, S2, e2, n2, q2⟩ => ?_
  refine thn (h1 pins s2 σ H2 x y v u _ I2 r1 r2 (h2 σ H2 E H0 ss x y dx dy Q _ S2 (den_W e2 n1) n2 q2 fun _ _ z => z)) fun z s3 ⟨w, H3, I3, r3, q3⟩ => ?_
  exact ⟨w, H3, I3, r3, EPD.back (e1.trans e2) q3⟩
def isB (Q : Bool → Prop) : D → Prop
  | .bl b => Q b
  | _ => False
def vTest (t : TD) : TB := fun ss Q Qx => t ss (isB Q) Qx
theorem isB.bl {Q : Bool → Prop} {d : D} (h : isB Q d) : ∃ b, d = .bl b ∧ Q b := by
  cases d with
  | bl b => exact ⟨b, rfl, h⟩
  | _ => exact h.elim
/-- a comparison as a test -/
theorem t_cmp {op : CmpOp} {r : RD} (ho : OpD X P g (compareOp op) r) (ha : DE X P g a ta) (hb : DE X P g b tb) (hm : behindInMarks op b = false) : DT X P g (.Compare a [op] [b] pos) (vTest (vOp r ta tb)) := by
  obtain ⟨hr, h1, h2⟩ := ho
  refine ⟨fun pins s σ H E H0 ss Q Qx I S T h => ?_⟩
  refine wpAny_isTrue_Compare1 ?_ hm
  refine thn (ha.run pins s σ H E H0 ss _ Qx I S T h) fun v s1 ⟨x, H1, I1, r1, dx, S1, e1, n1, q1⟩ => ?_
  refine thn (hb.run pins s1 σ H1 E H0 ss _ Qx I1 S1 T q1) fun u s2 ⟨y, H2, I2, r2, dy, S2, e2, n2, q2⟩ => ?_
  refine thn (h1 pins s2 σ H2 x y v u _ I2 r1 r2 (h2 σ H2 E H0 ss x y dx dy _ _ S2 (den_W e2 n1) n2 q2 fun _ _ z => z)) fun z s3 ⟨w, H3, I3, r3, d, S3, e3, n3, q3⟩ => ?_
  obtain ⟨k, rfl, q⟩ := q3.bl
  cases n3
  cases r3
  exact wpAny_truthy_bool ⟨H3, I3, S3, (e1.trans e2).trans e3, q⟩
/-- an expression whose value is a bool, as a test -/
theorem t_val (h : DE X P g e ta) (he : ∀ whole, isTrue e X.env whole = (do let v ← whole; standAt e.pos; holding [v] (truthy v)) := by intro _; rfl) : DT X P g e (vTest ta) :=
  DT.of (pt_val h.pe he) fun σ H E H0 ss Q Qx S T h => upE.run S T h fun v H' d S' e' n q => by
    obtain ⟨k, rfl, q⟩ := q.bl
    cases n
    exact ⟨k, rfl, S', e', q⟩
/-! ### and, or, not, if -/
def vAnd (t u : TB) : TB := fun ss Q Qx => t ss (fun b => match b with | true => u ss Q Qx | false => Q false) Qx
def vOr (t u : TB) : TB := fun ss Q Qx => t ss (fun b => match b with | true => Q true | false => u ss Q Qx) Qx
def vNot (t : TB) : TB := fun ss Q Qx => t ss (fun b => Q (!b)) Qx
theorem TPD.back {Q : Bool → Prop} {v : Bool} {H' : Hp} (e : Ext g.W H H1) (h : TPD P g E H0 ss σ H1 Q v H') : TPD P g E H0 ss σ H Q v H' := by
  obtain ⟨a, b, q⟩ := h
  exact ⟨a, e.trans b, q⟩
theorem w_and1 (ha : DT X P g a tt) : DW X P g (.BoolOp .And [a] pos) tt := DW.of (pw_and1 ha.pt) fun σ H E H0 ss Q Qx S T h => upT.run S T h fun b H' S' e q => ⟨S', e, q⟩
theorem w_or1 (ha : DT X P g a tt) : DW X P g (.BoolOp .Or [a] pos) tt := DW.of (pw_or1 ha.pt) fun σ H E H0 ss Q Qx S T h => upT.run S T h fun b H' S' e q => ⟨S', e, q⟩
theorem w_and {rest : List Expr} (ha : DT X P g a tt) (hb : DW X P g (.BoolOp .And (b :: rest) pos) uu) : DW X P g (.BoolOp .And (a :: b :: rest) pos) (vAnd tt uu) := DW.of (pw_and ha.pt hb.pw) fun σ H E H0 ss Q Qx S T h => upT.run S T h fun k H' S' e q => by
  cases k with
  | true => exact iteT (upT.run S' T q fun k' H'' S'' e' q' => ⟨S'', e.trans e', q'⟩)
  | false => exact iteF ⟨S', e, q⟩
theorem w_or {rest : List Expr} (ha : DT X P g a tt) (hb : DW X P g (.BoolOp .Or (b :: rest) pos) uu) : DW X P g (.BoolOp .Or (a :: b :: rest) pos) (vOr tt uu) := DW.of (pw_or ha.pt hb.pw) fun σ H E H0 ss Q Qx S T h => upT.run S T h fun k H' S' e q => by
  cases k with
  | true => exact iteT ⟨S', e, q⟩
  | false => exact iteF (upT.run S' T q fun k' H'' S'' e' q' => ⟨S'', e.trans e', q'⟩)
theorem t_not (ha : DT X P g a tt) : DT X P g (.UnaryOp .Not a pos) (vNot tt) := DT.of (pt_not ha.pt) fun σ H E H0 ss Q Qx S T h => upT.run S T h fun b H' S' e q => ⟨S', e, q⟩
def vAndV (ta tb : TD) : TD := fun ss Q Qx => ta ss (isB fun b => match b with | true => tb ss Q Qx | false => Q (.bl false)) Qx
def vOrV (ta tb : TD) : TD := fun ss Q Qx => ta ss (isB fun b => match b with | true => Q (.bl true) | false => tb ss Q Qx) Qx
def vNotV (ta : TD) : TD := fun ss Q Qx => ta ss (isB fun b => Q (.bl (!b))) Qx
theorem d_one {op} (h : DE X P g a ta) : DE X P g (.BoolOp op [a] pos) ta := DE.of (pe_one h.pe) fun σ H E H0 ss Q Qx S T h => upE.run S T h fun v H' d S' e n q => ⟨d, S', e, n, q⟩
theorem d_and {rest : List Expr} (ha : DE X P g a ta) (hb : DE X P g (.BoolOp .And (b :: rest) pos) tb) : DE X P g (.BoolOp .And (a :: b :: rest) pos) (vAndV ta tb) := DE.of (pe_and ha.pe hb.pe) fun σ H E H0 ss Q Qx S T h => upE.run S T h fun v H' d S' e n q => by
  obtain ⟨k, rfl, q⟩ := q.bl
  cases n
  refine ⟨k, rfl, ?_⟩
  cases k with
  | true => exact iteT (upE.run S' T q fun v' H'' d' S'' e' n' q' => ⟨d', S'', e.trans e', n', q'⟩)
  | false => exact iteF ⟨_, S', e, .bl, q⟩
theorem d_or {rest : List Expr} (ha : DE X P g a ta) (hb : DE X P g (.BoolOp .Or (b :: rest) pos) tb) : DE X P g (.BoolOp .Or (a :: b :: rest) pos) (vOrV ta tb) := DE.of (pe_or ha.pe hb.pe) fun σ H E H0 ss Q Qx S T h => upE.run S T h fun v H' d S' e n q => by
  obtain ⟨k, rfl, q⟩ := q.bl
  cases n
  refine ⟨k, rfl, ?_⟩
  cases k with
  | true => exact iteT ⟨_, S', e, .bl, q⟩
  | false => exact iteF (upE.run S' T q fun v' H'' d' S'' e' n' q' => ⟨d', S'', e.trans e', n', q'⟩)
theorem d_not (ha : DE X P g a ta) : DE X P g (.UnaryOp .Not a pos) (vNotV ta) := DE.of (pe_not ha.pe) fun σ H E H0 ss Q Qx S T h => upE.run S T h fun v H' d S' e n q => by
  obtain ⟨k, rfl, q⟩ := q.bl
  cases n
  exact ⟨k, rfl, _, S', e, .bl, q⟩
def vIf (t : TB) (ta tb : TD) : TD := fun ss Q Qx => t ss (fun b => match b with | true => ta ss Q Qx | false => tb ss Q Qx) Qx
theorem d_ifExp (hc : DT X P g c tt) (ha : DE X P g a ta) (hb : DE X P g b tb) : DE X P g (.IfExp c a b pos) (vIf tt ta tb) := DE.of (pe_ifExp hc.pt ha.pe hb.pe) fun σ H E H0 ss Q Qx S T h => upT.run S T h fun k H' S' e q => by
  cases k with
  | true => exact iteT (upE.run S' T q fun v' H'' d' S'' e' n' q' => ⟨d', S'', e.trans e', n', q'⟩)
  | false => exact iteF (upE.run S' T q fun v' H'' d' S'' e' n' q' => ⟨d', S'', e.trans e', n', q'⟩)
/-! ### is None -/
def isNon : D → Bool
  | .non => true
  | _ => false
theorem Den.isNon {R : Addr → Prop} {v : V} {d : D} (h : Den P g R H v d) : decide (v = .non) = isNon d := by
  cases h <;> rfl
def vIsN (ta : TD) : TD := fun ss Q Qx => ta ss (fun d => Q (.bl (isNon d))) Qx
def vNotN (ta : TD) : TD := fun ss Q Qx => ta ss (fun d => Q (.bl (!isNon d))) Qx
theorem d_isN {j pos'} (ha : DE X P g a ta) : DE X P g (.Compare a [.Is] [.Constant .none j pos'] pos) (vIsN ta) := DE.of (pe_cmp (pc_isN ha.pe) rfl) fun σ H E H0 ss Q Qx S T h => upE.run S T h fun v H' d S' e n q => by
  rw [n.isNon]
  exact ⟨_, S', e, .bl, q⟩
theorem d_notN {j pos'} (ha : DE X P g a ta) : DE X P g (.Compare a [.IsNot] [.Constant .none j pos'] pos) (vNotN ta) := DE.of (pe_cmp (pc_notN ha.pe) rfl) fun σ H E H0 ss Q Qx S T h => upE.run S T h fun v H' d S' e n q => by
  rw [n.isNon]
  exact ⟨_, S', e, .bl, q⟩
theorem t_isN {j pos'} (ha : DE X P g a ta) : DT X P g (.Compare a [.Is] [.Constant .none j pos'] pos) (vTest (vIsN ta)) := DT.of (pt_cmp (pc_isN ha.pe) rfl) fun σ H E H0 ss Q Qx S T h => upE.run S T h fun v H' d S' e n q => by
  rw [n.isNon]
  exact ⟨_, rfl, S', e, q⟩
theorem t_notN {j pos'} (ha : DE X P g a ta) : DT X P g (.Compare a [.IsNot] [.Constant .none j pos'] pos) (vTest (vNotN ta)) := DT.of (pt_cmp (pc_notN ha.pe) rfl) fun σ H E H0 ss Q Qx S T h => upE.run S T h fun v H' d S' e n q => by
  rw [n.isNon]
  exact ⟨_, rfl, S', e, q⟩
/-! ### arguments, displays -/
def vNil : TL := fun _ Q _ => Q []
def vCons (ta : TD) (tl : TL) : TL := fun ss Q Qx => ta ss (fun x => tl ss (fun xs => Q (x :: xs)) Qx) Qx
theorem a_nil : DA X P g [] vNil := DA.of pa_nil fun σ H E H0 ss Q Qx S T h => ⟨[], S, Ext.refl _ _, .nil, h⟩
theorem a_cons (ha : DE X P g e ta) (hr : DA X P g es tl) (hs : starEach (e :: es) X.env = (false, eval e X.env) :: starEach es X.env := by rfl) : DA X P g (e :: es) (vCons ta tl) :=
  DA.of (pa_cons ha.pe hr.pa hs) fun σ H E H0 ss Q Qx S T h => upE.run S T h fun v H' d S' e n q => upA.run S' T q fun vs H'' ds S'' e' ns q' => ⟨d :: ds, S'', e.trans e', .cons (den_W e' n) ns, q'⟩
def vTup (tl : TL) : TD := fun ss Q Qx => tl ss (fun l => l.length ≤ 100000 ∧ Q (.tup l)) Qx
def vLst (tl : TL) : TD := fun ss Q Qx => tl ss (fun l => l.length ≤ 100000 ∧ Q (.lst l)) Qx
theorem line5 {n : Nat} (h : n ≤ 100000) : n ≤ sizeLine := Nat.le_trans h (by decide)
theorem d_tup {x1} (h : DA X P g es tl) : DE X P g (.Tuple es x1 pos) (vTup tl) := DE.of (pe_tup h.pa) fun σ H E H0 ss Q Qx S T h => upA.run S T h fun vs H' ds S' e ns q =>
  ⟨by rw [ns.length]; exact line5 q.1, fun p hp => EPD.back e (.tup S' hp ns q.2)⟩
theorem d_lst (h : DA X P g es tl) : DE X P g (.List es pos) (vLst tl) := DE.of (pe_lst h.pa) fun σ H E H0 ss Q Qx S T h => upA.run S T h fun vs H' ds S' e ns q =>
  ⟨by rw [ns.length]; exact line5 q.1, fun p hp => EPD.back e (.lst S' hp ns q.2)⟩
end
end DL

set_option maxRecDepth 100000
set_option maxHeartbeats 4000000
namespace DL
open PySem L2 LamX NdefX

section
variable {X : Cx} {P : Gl0} {g : G} {a b c e : Expr} {es : List Expr} {ta tb tc : TD} {tt uu : TB} {tl : TL} {pos : Pos}
variable {E : Ex} {H0 H H1 : Hp} {ss : SS} {σ : St}

/-! ### the operators' meanings -/
def rAdd : RD := fun x y Q => match x, y with
  | .int i, .int j => Q (.int (i + j))
  | .str s, .str t => s.length + t.length ≤ sizeLine ∧ Q (.str (s ++ t))
  | .lst l, .lst m => l.length + m.length ≤ sizeLine ∧ Q (.lst (l ++ m))
  | .tup l, .tup m => l.length + m.length ≤ sizeLine ∧ Q (.tup (l ++ m))
  | _, _ => False
theorem o_add : OpD X P g (binaryOp .Add) rAdd := by
  refine ⟨_, op_add.or (op_add_str.or (op_cat.or op_catA)), fun σ H E H0 ss x y dx dy Q K S nx ny h kk => ?_⟩
  unfold rAdd at h
  split at h
  · cases nx; cases ny
    exact .inl ⟨_, _, rfl, rfl, kk _ _ (.now S .int h)⟩
  · cases nx; cases ny
    exact .inr (.inl ⟨_, _, rfl, rfl, h.1, kk _ _ (.now S .str h.2)⟩)
  · obtain ⟨a, vs, rfl, n1, h1, l1⟩ := nx.of_lst
    obtain ⟨b, ws, rfl, n2, h2, l2⟩ := ny.of_lst
    exact .inr (.inr (.inl ⟨a, b, vs, ws, rfl, rfl, h1, h2, by rw [l1.length, l2.length]; exact h.1, fun p hp => kk _ _ (.lst S hp (l1.append l2) h.2)⟩))
  · obtain ⟨a, vs, rfl, n1, h1, l1⟩ := nx.of_tup
    obtain ⟨b, ws, rfl, n2, h2, l2⟩ := ny.of_tup
    obtain ⟨h4, h5⟩ := h
    refine .inr (.inr (.inr ⟨a, b, vs, ws, rfl, rfl, SqT.of h1, SqT.of h2, by rw [l1.length, l2.length]; exact h4, fun ev => ?_, fun _ ew => ?_, fun _ _ p hp => kk _ _ (.tup S hp (l1.append l2) h5)⟩))
    · subst ev
      cases l1
      rw [List.nil_append] at h5
      exact kk _ _ (.now S (.tup n2 h2 l2) h5)
    · subst ew
      cases l2
      rw [List.append_nil] at h5
      exact kk _ _ (.now S (.tup n1 h1 l1) h5)
  · exact h.elim
def rSub : RD := fun x y Q => match x, y with
  | .int i, .int j => Q (.int (i - j))
  | _, _ => False
theorem o_sub : OpD X P g (binaryOp .Sub) rSub := by
  refine ⟨_, op_sub, fun σ H E H0 ss x y dx dy Q K S nx ny h kk => ?_⟩
  unfold rSub at h
  split at h
  · cases nx; cases ny
    exact ⟨_, _, rfl, rfl, kk _ _ (.now S .int h)⟩
  · exact h.elim
theorem DenL.rep {R : Addr → Prop} {vs : List V} {l : List D} (h : DenL P g R H vs l) : ∀ k : Nat, DenL P g R H (List.replicate k vs).flatten (List.replicate k l).flatten
  | 0 => .nil
  | k + 1 => by
    rw [List.replicate_succ, List.replicate_succ, List.flatten_cons, List.flatten_cons]
    exact h.append (DenL.rep h k)
def rMul : RD := fun x y Q => match x, y with
  | .int i, .int j => CMul i j ∧ Q (.int (i * j))
  | .lst l, .int k => (k < 1000000 ∧ -1000000 < k) ∧ l.length * k.toNat ≤ sizeLine ∧ Q (.lst (List.replicate k.toNat l).flatten)
  | .tup l, .int k => l ≠ [] ∧ (2 ≤ k ∧ k ≤ 1000 ∧ l.length ≤ 1000) ∧ Q (.tup (List.replicate k.toNat l).flatten)
  | _, _ => False
theorem o_mul : OpD X P g (binaryOp .Mult) rMul := by
  refine ⟨_, op_mul.or (op_rep.or op_repT), fun σ H E H0 ss x y dx dy Q K S nx ny h kk => ?_⟩
  unfold rMul at h
  split at h
  · cases nx; cases ny
    exact .inl ⟨_, _, rfl, rfl, h.1, kk _ _ (.now S .int h.2)⟩
  · cases ny
    obtain ⟨a, vs, rfl, n1, h1, l1⟩ := nx.of_lst
    exact .inr (.inl ⟨a, _, vs, rfl, rfl, h1, by omega, by omega, by rw [l1.length]; exact h.2.1, fun p hp => kk _ _ (.lst S hp (l1.rep _) h.2.2)⟩)
  · cases ny
    obtain ⟨a, vs, rfl, n1, h1, l1⟩ := nx.of_tup
    obtain ⟨h3, ⟨h4, h5, h6⟩, h7⟩ := h
    refine .inr (.inr ⟨a, _, vs, rfl, rfl, SqT.of h1, fun z => h3 ?_, h4, h5, by rw [l1.length]; exact h6, fun p hp => kk _ _ (.tup S hp (l1.rep _) h7)⟩)
    have z2 := l1.length
    rw [z] at z2
    exact List.eq_nil_of_length_eq_zero z2.symm
  · exact h.elim
def rInt (C : Int → Int → Prop) (f : Int → Int → D) : RD := fun x y Q => match x, y with
  | .int i, .int j => C i j ∧ Q (f i j)
  | _, _ => False
theorem rInt.ok {C : Int → Int → Prop} {f : Int → Int → D} {x y : D} {Q : D → Prop} (h : rInt C f x y Q) : ∃ i j, x = .int i ∧ y = .int j ∧ C i j ∧ Q (f i j) := by
  unfold rInt at h
  split at h
  · exact ⟨_, _, rfl, rfl, h⟩
  · exact h.elim
def rDiv : RD := rInt CDiv fun i j => .int (i / j)
def rMod : RD := rInt (fun _ j => 0 < j) fun i j => .int (i % j)
def rPow : RD := rInt CPow fun i j => .int (i ^ j.toNat)
def rShl : RD := rInt CPow fun i j => .int (i * 2 ^ j.toNat)
def rLt : RD := rInt (fun _ _ => True) fun i j => .bl (decide (i < j))
def rLe : RD := rInt (fun _ _ => True) fun i j => .bl (decide (i ≤ j))
def rGt : RD := rInt (fun _ _ => True) fun i j => .bl (decide (j < i))
def rGe : RD := rInt (fun _ _ => True) fun i j => .bl (decide (j ≤ i))
theorem o_I {f : Value → Value → Sem Value} {C : Int → Int → Prop} {k : Int → Int → Int} (h : OpR X f (rI C fun i j => .int (k i j))) : OpD X P g f (rInt C fun i j => .int (k i j)) := by
  refine ⟨_, h, fun σ H E H0 ss x y dx dy Q K S nx ny h kk => ?_⟩
  obtain ⟨i, j, rfl, rfl, hc, q⟩ := h.ok
  cases nx; cases ny
  exact ⟨_, _, rfl, rfl, hc, kk _ _ (.now S .int q)⟩
theorem o_B {f : Value → Value → Sem Value} {k : Int → Int → Bool} (h : OpR X f (rI0 fun i j => .bl (k i j))) : OpD X P g f (rInt (fun _ _ => True) fun i j => .bl (k i j)) := by
  refine ⟨_, h, fun σ H E H0 ss x y dx dy Q K S nx ny h kk => ?_⟩
  obtain ⟨i, j, rfl, rfl, hc, q⟩ := h.ok
  cases nx; cases ny
  exact ⟨_, _, rfl, rfl, kk _ _ (.now S .bl q)⟩
theorem o_div : OpD X P g (binaryOp .FloorDiv) rDiv := o_I op_fdiv
theorem o_mod : OpD X P g (binaryOp .Mod) rMod := o_I op_mod
theorem o_pow : OpD X P g (binaryOp .Pow) rPow := o_I op_pow
theorem o_shl : OpD X P g (binaryOp .LShift) rShl := o_I op_shl
theorem o_lt : OpD X P g (compareOp .Lt) rLt := o_B op_lt
theorem o_le : OpD X P g (compareOp .LtE) rLe := o_B op_le
theorem o_gt : OpD X P g (compareOp .Gt) rGt := o_B op_gt
theorem o_ge : OpD X P g (compareOp .GtE) rGe := o_B op_ge
/-! ### a < b < c -/
def vChain (r r' : RD) (ta tb tc : TD) : TD := fun ss Q Qx => ta ss (fun x => tb ss (fun y => r x y (isB fun k => match k with | true => tc ss (fun z => r' y z Q) Qx | false => Q (.bl false))) Qx) Qx
theorem d_chain {op op' : CmpOp} {r r' : RD} (ho : OpD X P g (compareOp op) r) (ho' : OpD X P g (compareOp op') r') (ha : DE X P g a ta) (hb : DE X P g b tb) (hc : DE X P g c tc)
    (hm : lastMarks [op, op'] [b, c] = false := by with_unfolding_all rfl) : DE X P g (.Compare a [op, op'] [b, c] pos) (vChain r r' ta tb tc) := by
  obtain ⟨hr, h1, h2⟩ := ho
  obtain ⟨hr', h1', h2'⟩ := ho'
  refine DE.of (pe_chain h1 h1' ha.pe hb.pe hc.pe hm) fun σ H E H0 ss Q Qx S T h => upE.run S T h fun x H1 dx S1 e1 n1 q1 => upE.run S1 T q1 fun y H2 dy S2 e2 n2 q2 => ?_
  refine h2 σ H2 E H0 ss x y dx dy _ _ S2 (den_W e2 n1) n2 q2 fun z H3 ⟨d, S3, e3, n3, q3⟩ => ?_
  obtain ⟨k, rfl, q⟩ := q3.bl
  cases n3
  refine ⟨k, rfl, ?_⟩
  cases k with
  | false => exact iteF ⟨_, S3, (e1.trans e2).trans e3, .bl, q⟩
  | true => exact iteT (upE.run S3 T q fun w H4 dw S4 e4 n4 q4 => h2' σ H4 E H0 ss y w dy dw Q _ S4 (den_W e4 (den_W e3 n2)) n4 q4 fun v H' z => EPD.back (((e1.trans e2).trans e3).trans e4) z)
theorem t_chain {op op' : CmpOp} {r r' : RD} (ho : OpD X P g (compareOp op) r) (ho' : OpD X P g (compareOp op') r') (ha : DE X P g a ta) (hb : DE X P g b tb) (hc : DE X P g c tc)
    (hm : lastMarks [op, op'] [b, c] = false := by with_unfolding_all rfl) : DT X P g (.Compare a [op, op'] [b, c] pos) (vTest (vChain r r' ta tb tc)) := by
  obtain ⟨hr, h1, h2⟩ := ho
  obtain ⟨hr', h1', h2'⟩ := ho'
  refine DT.of (pt_chain h1 h1' ha.pe hb.pe hc.pe hm) fun σ H E H0 ss Q Qx S T h => upE.run S T h fun x H1 dx S1 e1 n1 q1 => upE.run S1 T q1 fun y H2 dy S2 e2 n2 q2 => ?_
  refine h2 σ H2 E H0 ss x y dx dy _ _ S2 (den_W e2 n1) n2 q2 fun z H3 ⟨d, S3, e3, n3, q3⟩ => ?_
  obtain ⟨k, rfl, q⟩ := q3.bl
  cases n3
  refine ⟨k, rfl, ?_⟩
  cases k with
  | false => exact iteF ⟨_, rfl, S3, (e1.trans e2).trans e3, q⟩
  | true => exact iteT (upE.run S3 T q fun w H4 dw S4 e4 n4 q4 => h2' σ H4 E H0 ss y w dy dw _ _ S4 (den_W e4 (den_W e3 n2)) n4 q4 fun v H' ⟨d, S5, e5, n5, q5⟩ => by
      obtain ⟨k, rfl, q⟩ := q5.bl
      cases n5
      exact ⟨k, rfl, S5, (((e1.trans e2).trans e3).trans e4).trans e5, q⟩)
/-! ### plain data: == -/
mutual
def toPy : D → Option PyData
  | .non => some .none
  | .bl b => some (.bool b)
  | .int i => some (.int i)
  | .str x => some (.str x)
  | .tup l => (toPyL l).map .tuple
  | .lst l => (toPyL l).map .list
  | _ => none
def toPyL : List D → Option (List PyData)
  | [] => some []
  | d :: ds => match toPy d, toPyL ds with
    | some p, some ps => some (p :: ps)
    | _, _ => none
end

theorem toPy_dp (K : PySem.W.Frag) {R : Addr → Prop} : ∀ {d : D} {p : PyData} {v : V}, toPy d = some p → Den P g R H v d → Dp K H v p
  | .non, p, v, h, n => by cases n; simp only [toPy] at h; cases h; exact .non
  | .bl _, p, v, h, n => by cases n; simp only [toPy] at h; cases h; exact .bl _
  | .int _, p, v, h, n => by cases n; simp only [toPy] at h; cases h; exact .int _
  | .str _, p, v, h, n => by cases n; simp only [toPy] at h; cases h; exact .str _
  | .tup l, p, v, h, n => by
    simp only [toPy] at h
    obtain ⟨ps, h1, h2⟩ := Option.map_eq_some_iff.mp h
    subst h2
    cases n with
    | tup n' ha hl => exact .tup (SqT.of ha) (go h1 hl)
  | .lst l, p, v, h, n => by
    simp only [toPy] at h
    obtain ⟨ps, h1, h2⟩ := Option.map_eq_some_iff.mp h
    subst h2
    cases n with
    | lst n' ha hl => exact .lst (SqL.of ha) (go h1 hl)
  | .dct _, p, v, h, n => by simp only [toPy] at h; cases h
  | .ins _ _, p, v, h, n => by simp only [toPy] at h; cases h
  | .insA _ _ _, p, v, h, n => by simp only [toPy] at h; cases h
  | .exc _ _, p, v, h, n => by simp only [toPy] at h; cases h
  | .clo _ _, p, v, h, n => by simp only [toPy] at h; cases h
  | .box _, p, v, h, n => by simp only [toPy] at h; cases h
  | .fn _, p, v, h, n => by simp only [toPy] at h; cases h
where
  go : ∀ {ds : List D} {ps : List PyData} {vs : List V}, toPyL ds = some ps → DenL P g R H vs ds → DpAll K H vs ps
  | [], ps, vs, h, n => by simp only [toPyL] at h; cases h; cases n; exact .nil
  | d :: ds, ps, vs, h, n => by
    simp only [toPyL] at h
    cases n with
    | cons n1 n2 =>
      cases e1 : toPy d with
      | none => rw [e1] at h; cases h
      | some p =>
        cases e2 : toPyL ds with
        | none => rw [e1, e2] at h; cases h
        | some qs =>
          rw [e1, e2] at h
          cases h
          exact .cons (toPy_dp K e1 n1) (go e2 n2)
def rEq : RD := fun x y Q => match toPy x, toPy y with
  | some p, some q => SeqAt.shaped p = true ∧ SeqAt.shaped q = true ∧ Q (.bl (PyData.eqv p q))
  | _, _ => False
def rNe : RD := fun x y Q => match toPy x, toPy y with
  | some p, some q => SeqAt.shaped p = true ∧ SeqAt.shaped q = true ∧ Q (.bl (!PyData.eqv p q))
  | _, _ => False
theorem o_eq (hu : X.A.units + 64 < cLine) : OpD X P g (compareOp .Eq) rEq := by
  refine ⟨_, op_eqD hu, fun σ H E H0 ss x y dx dy Q K S nx ny h kk => ?_⟩
  unfold rEq at h
  split at h
  · rename_i p q e1 e2
    exact ⟨p, q, toPy_dp _ e1 nx, toPy_dp _ e2 ny, h.1, h.2.1, kk _ _ (.now S .bl h.2.2)⟩
  · exact h.elim
theorem o_ne (hu : X.A.units + 64 < cLine) : OpD X P g (compareOp .NotEq) rNe := by
  refine ⟨_, op_neD hu, fun σ H E H0 ss x y dx dy Q K S nx ny h kk => ?_⟩
  unfold rNe at h
  split at h
  · rename_i p q e1 e2
    exact ⟨p, q, toPy_dp _ e1 nx, toPy_dp _ e2 ny, h.1, h.2.1, kk _ _ (.now S .bl h.2.2)⟩
  · exact h.elim
/-! ### subscripts -/
theorem DenL.atI {R : Addr → Prop} {vs : List V} {l : List D} {i : Int} {d : D} (h : DenL P g R H vs l) (e : atI l i = some d) : ∃ v, L2.atI vs i = some v ∧ Den P g R H v d := by
  unfold L2.atI at e ⊢
  rw [h.length]
  obtain ⟨j, h1, h2⟩ := Option.bind_eq_some_iff.mp e
  obtain ⟨v, h3, h4⟩ := h.get h2
  exact ⟨v, by rw [h1]; exact h3, h4⟩
def someD (o : Option D) (Q : D → Prop) : Prop := match o with
  | some d => Q d
  | none => False
theorem someD.ok {o : Option D} {Q : D → Prop} (h : someD o Q) : ∃ d, o = some d ∧ Q d := by
  cases o with
  | some d => exact ⟨d, rfl, h⟩
  | none => exact h.elim
def rIx : RD := fun x y Q => match x, y with
  | .lst l, .int i => someD (atI l i) Q
  | .tup l, .int i => someD (atI l i) Q
  | .str z, .int i => z.length ≤ sizeLine ∧ someD ((atI z.cps.toList i).map fun c => .str ⟨#[c]⟩) Q
  | _, _ => False
def vIx (ta tb : TD) : TD := vOp rIx ta tb
theorem d_ix (ha : DE X P g a ta) (hb : DE X P g b tb) (hs : PlainIx b := by exact fun _ _ => rfl) : DE X P g (.Subscript a b pos) (vIx ta tb) :=
  DE.of (pe_ix ix_seq ha.pe hb.pe hs) fun σ H E H0 ss Q Qx S T h => upE.run S T h fun x H1 dx S1 e1 n1 q1 => upE.run S1 T q1 fun y H2 dy S2 e2 n2 q2 => by
    have n1 := den_W e2 n1
    unfold DL.rIx at q2
    split at q2
    · obtain ⟨d, h1, h2⟩ := q2.ok
      obtain ⟨p, vs, rfl, n, ha, l⟩ := n1.of_lst
      cases n2
      obtain ⟨v, h3, h4⟩ := l.atI h1
      exact .inl ⟨p, vs, _, v, rfl, rfl, SqL.of ha, h3, EPD.back (e1.trans e2) (.now S2 h4 h2)⟩
    · obtain ⟨d, h1, h2⟩ := q2.ok
      obtain ⟨p, vs, rfl, n, ha, l⟩ := n1.of_tup
      cases n2
      obtain ⟨v, h3, h4⟩ := l.atI h1
      exact .inr (.inl ⟨p, vs, _, v, rfl, rfl, SqT.of ha, h3, EPD.back (e1.trans e2) (.now S2 h4 h2)⟩)
    · obtain ⟨d, h1, h2⟩ := q2.2.ok
      obtain ⟨k, h3, h4⟩ := Option.map_eq_some_iff.mp h1
      subst h4
      cases n1; cases n2
      exact .inr (.inr ⟨_, _, k, rfl, rfl, q2.1, h3, EPD.back (e1.trans e2) (.now S2 .str h2)⟩)
    · exact q2.elim
/-! ### slices -/
def cutD (l : List D) (lo hi : Option Int) : List D := (l.drop (HT.sIx l.length 0 lo)).take (HT.sIx l.length l.length hi - HT.sIx l.length 0 lo)
theorem DenL.cut {R : Addr → Prop} {vs : List V} {l : List D} (h : DenL P g R H vs l) (lo hi : Option Int) : DenL P g R H (cutV vs lo hi) (cutD l lo hi) := by
  unfold cutV cutD
  rw [h.length]
  exact (h.drop _).take _
abbrev TO' := SS → (Option Int → Prop) → (Err → SS → Prop) → Prop
structure DO (X : Cx) (P : Gl0) (g : G) (e : Option Expr) (t : TO') : Prop where
  po : ∃ to : TO, PO X e to ∧ ∀ (σ : St) (H : Hp) (E : Ex) (H0 : Hp) (ss : SS) (Q : Option Int → Prop) (Qx : Err → SS → Prop) (K : Option Int → Hp → Prop), Stt P g E H0 ss σ H → TX X P g E H0 Qx → t ss Q Qx →
    (∀ i H', Stt P g E H0 ss σ H' → Ext g.W H H' → Q i → K i H') → to σ H K
def vNoPart : TO' := fun _ Q _ => Q none
def isI (Q : Option Int → Prop) : D → Prop
  | .int i => Q (some i)
  | _ => False
def vPart (ta : TD) : TO' := fun ss Q Qx => ta ss (isI Q) Qx
theorem do_none : DO X P g none vNoPart := ⟨_, po_none, fun σ H E H0 ss Q Qx K S T h k => k none H S (Ext.refl _ _) h⟩
theorem do_some (h : DE X P g e ta) : DO X P g (some e) (vPart ta) := ⟨_, po_some h.pe, fun σ H E H0 ss Q Qx K S T h k => upE.run S T h fun v H' d S' e' n q => by
  cases d with
  | int i => cases n; exact ⟨i, rfl, k _ _ S' e' q⟩
  | _ => exact q.elim⟩
def rSl : D → Option Int → Option Int → (D → Prop) → Prop := fun x lo hi Q => match x with
  | .lst l => Q (.lst (cutD l lo hi))
  | .tup l => Q (.tup (cutD l lo hi))
  | .str z => z.length ≤ sizeLine ∧ Q (.str (cutS z lo hi))
  | _ => False
def vSl (ta : TD) (tl th : TO') : TD := fun ss Q Qx => ta ss (fun x => tl ss (fun l => th ss (fun h => rSl x l h Q) Qx) Qx) Qx
theorem cut_whole {l : List D} {i j : Option Int} (w : HT.sIx l.length 0 i = 0 ∧ HT.sIx l.length l.length j = l.length) : cutD l i j = l := by
  unfold cutD
  rw [w.1, w.2, List.drop_zero, Nat.sub_zero, List.take_length]
theorem d_slice {lo hi : Option Expr} {tl th : TO'} {p2 : Pos} (ha : DE X P g a ta) (hl : DO X P g lo tl) (hh : DO X P g hi th) : DE X P g (.Subscript a (.Slice lo hi none p2) pos) (vSl ta tl th) := by
  obtain ⟨l1, l2, l3⟩ := hl
  obtain ⟨h1, h2, h3⟩ := hh
  refine DE.of (pe_slice (sl_list.or (sl_tupA.or sl_str)) ha.pe l2 h2) fun σ H E H0 ss Q Qx S T h => upE.run S T h fun x H1 dx S1 e1 n1 q1 => ?_
  refine l3 σ H1 E H0 ss _ Qx _ S1 T q1 fun i H2 S2 e2 q2 => h3 σ H2 E H0 ss _ Qx _ S2 T q2 fun j H3 S3 e3 q3 => ?_
  have n1 := den_W e3 (den_W e2 n1)
  have ee := (e1.trans e2).trans e3
  unfold rSl at q3
  split at q3
  · obtain ⟨p, vs, rfl, n, hp, l⟩ := n1.of_lst
    exact .inl ⟨p, vs, rfl, SqL.of hp, fun p' hp' => EPD.back ee (.lst S3 hp' (l.cut i j) q3)⟩
  · obtain ⟨p, vs, rfl, n, hp, l⟩ := n1.of_tup
    refine .inr (.inl ⟨p, vs, rfl, SqT.of hp, fun w => ?_, fun _ p' hp' => EPD.back ee (.tup S3 hp' (l.cut i j) q3)⟩)
    rw [l.length] at w
    have e := cut_whole (i := i) (j := j) w
    rw [e] at q3
    exact EPD.back ee (.now S3 (.tup n hp l) q3)
  · cases n1
    exact .inr (.inr ⟨_, rfl, q3.1, EPD.back ee (.now S3 .str q3.2)⟩)
  · exact q3.elim
/-! ### built-ins called by their names -/
def CallD (X : Cx) (P : Gl0) (g : G) (f : Value) (r : List D → (D → Prop) → Prop) : Prop :=
  ∃ hr : List V → Hp → VK → Prop, CallR X f hr ∧ ∀ (σ : St) (H : Hp) (E : Ex) (H0 : Hp) (ss : SS) (vs : List V) (ds : List D) (Q : D → Prop) (K : VK), Stt P g E H0 ss σ H → DenL P g (Rg g E σ ss) H vs ds → r ds Q → (∀ v H', EPD P g E H0 ss σ H Q v H' → K v H') → hr vs H K
theorem CallD.or {f : Value} {r r' : List D → (D → Prop) → Prop} (h : CallD X P g f r) (h' : CallD X P g f r') : CallD X P g f (fun ds Q => r ds Q ∨ r' ds Q) := by
  obtain ⟨a, b, c⟩ := h
  obtain ⟨a', b', c'⟩ := h'
  exact ⟨_, b.or b', fun σ H E H0 ss vs ds Q K S n q k => q.elim (fun q => .inl (c σ H E H0 ss vs ds Q K S n q k)) fun q => .inr (c' σ H E H0 ss vs ds Q K S n q k)⟩
theorem CallD.imp {f : Value} {r r' : List D → (D → Prop) → Prop} (h : CallD X P g f r) (i : ∀ ds Q, r' ds Q → r ds Q) : CallD X P g f r' := by
  obtain ⟨a, b, c⟩ := h
  exact ⟨a, b, fun σ H E H0 ss vs ds Q K S n q k => c σ H E H0 ss vs ds Q K S n (i ds Q q) k⟩
def vCB (r : List D → (D → Prop) → Prop) (tl : TL) : TD := fun ss Q Qx => tl ss (fun ds => r ds Q) Qx
theorem d_callB {id : String} {r : List D → (D → Prop) → Prop} {x : Str} {p : Pos} (hc : CallD X P g (.builtin id) r) (hg : Gl X x) (hm : X.mg x = none) (hv : bootBuiltins x = some (.builtin id)) (ha : DA X P g (e :: es) tl) (hn : x ≠ "__name__" := by decide) (hdb : (x == ("__debug__" : Str)) = false := by decide)
    (he : starEach (e :: es) X.env = (false, eval e X.env) :: starEach es X.env := by rfl) (hpl : (backTo pos (starEach es X.env)).any (·.1) = false := by rfl) : DE X P g (.Call (.Name x p) (e :: es) [] pos) (vCB r tl) := by
  obtain ⟨hr, h1, h2⟩ := hc
  exact DE.of (pe_callB h1 hg hm hv ha.pa hn hdb he hpl) fun σ H E H0 ss Q Qx S T h => upA.run S T h fun vs H' ds S' e' ns q => h2 σ H' E H0 ss vs ds Q _ S' ns q fun v H' z => EPD.back e' z
theorem d_callTy {T : String} {r : List D → (D → Prop) → Prop} {x : Str} {p : Pos} (hc : CallD X P g (.type T) r) (hg : Gl X x) (hm : X.mg x = none) (hv : bootBuiltins x = some (.type T)) (ha : DA X P g (e :: es) tl) (hn : x ≠ "__name__" := by decide) (hdb : (x == ("__debug__" : Str)) = false := by decide)
    (he : starEach (e :: es) X.env = (false, eval e X.env) :: starEach es X.env := by rfl) (hpl : (backTo pos (starEach es X.env)).any (·.1) = false := by rfl) : DE X P g (.Call (.Name x p) (e :: es) [] pos) (vCB r tl) := by
  obtain ⟨hr, h1, h2⟩ := hc
  exact DE.of (pe_callTy h1 hg hm hv ha.pa hn hdb he hpl) fun σ H E H0 ss Q Qx S T h => upA.run S T h fun vs H' ds S' e' ns q => h2 σ H' E H0 ss vs ds Q _ S' ns q fun v H' z => EPD.back e' z
theorem DenL.one {R : Addr → Prop} {vs : List V} {d : D} (h : DenL P g R H vs [d]) : ∃ v, vs = [v] ∧ Den P g R H v d := by
  cases h with
  | cons h t => cases t; exact ⟨_, rfl, h⟩
theorem DenL.two {R : Addr → Prop} {vs : List V} {d e : D} (h : DenL P g R H vs [d, e]) : ∃ v w, vs = [v, w] ∧ Den P g R H v d ∧ Den P g R H w e := by
  cases h with
  | cons h t => obtain ⟨w, rfl, h2⟩ := t.one; exact ⟨_, w, rfl, h, h2⟩
def rLen : List D → (D → Prop) → Prop
  | [.lst l], Q => Q (.int l.length)
  | [.tup l], Q => Q (.int l.length)
  | [.str z], Q => z.length ≤ sizeLine ∧ Q (.int z.length)
  | _, _ => False
theorem c_len : CallD X P g (.builtin "len") rLen := by
  refine ⟨_, call_len_seq.or call_len_str, fun σ H E H0 ss vs ds Q K S n q k => ?_⟩
  unfold rLen at q
  split at q
  · obtain ⟨v, rfl, m⟩ := n.one
    obtain ⟨p, vs, rfl, n, hp, l⟩ := m.of_lst
    exact .inl ⟨p, vs, rfl, .inl (SqL.of hp), k _ _ (.now S .int (by rw [l.length]; exact q))⟩
  · obtain ⟨v, rfl, m⟩ := n.one
    obtain ⟨p, vs, rfl, n, hp, l⟩ := m.of_tup
    exact .inl ⟨p, vs, rfl, .inr (SqT.of hp), k _ _ (.now S .int (by rw [l.length]; exact q))⟩
  · obtain ⟨v, rfl, m⟩ := n.one
    cases m
    exact .inr ⟨_, rfl, q.1, k _ _ (.now S .int q.2)⟩
  · exact q.elim
def rAbs : List D → (D → Prop) → Prop
  | [.int i], Q => Q (.int (if i < 0 then -i else i))
  | _, _ => False
theorem c_abs : CallD X P g (.builtin "abs") rAbs := by
  refine ⟨_, call_abs, fun σ H E H0 ss vs ds Q K S n q k => ?_⟩
  unfold rAbs at q
  split at q
  · obtain ⟨v, rfl, m⟩ := n.one
    cases m
    exact ⟨_, rfl, k _ _ (.now S .int q)⟩
  · exact q.elim
def rMax2 : List D → (D → Prop) → Prop
  | [.int i, .int j], Q => Q (.int (if j > i then j else i))
  | _, _ => False
def rMin2 : List D → (D → Prop) → Prop
  | [.int i, .int j], Q => Q (.int (if j < i then j else i))
  | _, _ => False
theorem c_max2 (hc : X.calm = true) : CallD X P g (.builtin "max") rMax2 := by
  refine ⟨_, call_max2 hc, fun σ H E H0 ss vs ds Q K S n q k => ?_⟩
  unfold rMax2 at q
  split at q
  · obtain ⟨v, w, rfl, n1, n2⟩ := n.two
    cases n1; cases n2
    exact ⟨_, _, rfl, k _ _ (.now S .int q)⟩
  · exact q.elim
theorem c_min2 (hc : X.calm = true) : CallD X P g (.builtin "min") rMin2 := by
  refine ⟨_, call_min2 hc, fun σ H E H0 ss vs ds Q K S n q k => ?_⟩
  unfold rMin2 at q
  split at q
  · obtain ⟨v, w, rfl, n1, n2⟩ := n.two
    cases n1; cases n2
    exact ⟨_, _, rfl, k _ _ (.now S .int q)⟩
  · exact q.elim
def rIntOf : List D → (D → Prop) → Prop
  | [.int i], Q => Q (.int i)
  | [.bl b], Q => Q (.int (if b then 1 else 0))
  | _, _ => False
theorem c_int : CallD X P g (.type "int") rIntOf := by
  refine ⟨_, call_int1, fun σ H E H0 ss vs ds Q K S n q k => ?_⟩
  unfold rIntOf at q
  split at q
  · obtain ⟨v, rfl, m⟩ := n.one
    cases m
    exact .inl ⟨_, rfl, k _ _ (.now S .int q)⟩
  · obtain ⟨v, rfl, m⟩ := n.one
    cases m
    exact .inr ⟨_, rfl, k _ _ (.now S .int q)⟩
  · exact q.elim
def rListOf : List D → (D → Prop) → Prop
  | [.lst l], Q => Q (.lst l)
  | [.tup l], Q => Q (.lst l)
  | _, _ => False
theorem c_list : CallD X P g (.type "list") rListOf := by
  refine ⟨_, call_list_of, fun σ H E H0 ss vs ds Q K S n q k => ?_⟩
  unfold rListOf at q
  split at q
  · obtain ⟨v, rfl, m⟩ := n.one
    obtain ⟨p, vs, rfl, n, hp, l⟩ := m.of_lst
    exact ⟨p, vs, rfl, .inl (SqL.of hp), fun p' hp' => k _ _ (.lst S hp' l q)⟩
  · obtain ⟨v, rfl, m⟩ := n.one
    obtain ⟨p, vs, rfl, n, hp, l⟩ := m.of_tup
    exact ⟨p, vs, rfl, .inr (SqT.of hp), fun p' hp' => k _ _ (.lst S hp' l q)⟩
  · exact q.elim
def rTupleOf : List D → (D → Prop) → Prop
  | [.lst l], Q => Q (.tup l)
  | [.tup l], Q => Q (.tup l)
  | _, _ => False
theorem c_tuple : CallD X P g (.type "tuple") rTupleOf := by
  refine ⟨_, call_tuple_of, fun σ H E H0 ss vs ds Q K S n q k => ?_⟩
  unfold rTupleOf at q
  split at q
  · obtain ⟨v, rfl, m⟩ := n.one
    obtain ⟨p, vs, rfl, n, hp, l⟩ := m.of_lst
    exact ⟨p, vs, rfl, .inl ⟨SqL.of hp, fun p' hp' => k _ _ (.tup S hp' l q)⟩⟩
  · obtain ⟨v, rfl, m⟩ := n.one
    obtain ⟨p, vs, rfl, n, hp, l⟩ := m.of_tup
    exact ⟨p, vs, rfl, .inr ⟨SqT.of hp, k _ _ (.now S (.tup n hp l) q)⟩⟩
  · exact q.elim
def rAllD : List D → (D → Prop) → Prop := fun ds Q => ∃ bs : List Bool, ds = [.lst (bs.map .bl)] ∧ Q (.bl (bs.all id))
def rAnyD : List D → (D → Prop) → Prop := fun ds Q => ∃ bs : List Bool, ds = [.lst (bs.map .bl)] ∧ Q (.bl (bs.any id))
def rSumD : List D → (D → Prop) → Prop := fun ds Q => ∃ ns : List Int, ds = [.lst (ns.map .int)] ∧ Q (.int ns.sum)
theorem c_all (hc : X.calm = true) : CallD X P g (.builtin "all") rAllD := by
  refine ⟨_, cr_all hc, fun σ H E H0 ss vs ds Q K S n q k => ?_⟩
  obtain ⟨bs, rfl, q⟩ := q
  obtain ⟨v, rfl, m⟩ := n.one
  obtain ⟨p, vs, rfl, n, hp, l⟩ := m.of_lst
  have e := l.bls
  subst e
  exact ⟨p, bs, rfl, SqL.of hp, k _ _ (.now S .bl q)⟩
theorem c_any (hc : X.calm = true) : CallD X P g (.builtin "any") rAnyD := by
  refine ⟨_, cr_any hc, fun σ H E H0 ss vs ds Q K S n q k => ?_⟩
  obtain ⟨bs, rfl, q⟩ := q
  obtain ⟨v, rfl, m⟩ := n.one
  obtain ⟨p, vs, rfl, n, hp, l⟩ := m.of_lst
  have e := l.bls
  subst e
  exact ⟨p, bs, rfl, SqL.of hp, k _ _ (.now S .bl q)⟩
theorem c_sum (hc : X.calm = true) : CallD X P g (.builtin "sum") rSumD := by
  refine ⟨_, cr_sum hc, fun σ H E H0 ss vs ds Q K S n q k => ?_⟩
  obtain ⟨ns, rfl, q⟩ := q
  obtain ⟨v, rfl, m⟩ := n.one
  obtain ⟨p, vs, rfl, n, hp, l⟩ := m.of_lst
  have e := l.ints
  subst e
  exact ⟨p, ns, rfl, SqL.of hp, k _ _ (.now S .int q)⟩
end
end DL

set_option maxRecDepth 100000
set_option maxHeartbeats 4000000
namespace DL
open PySem L2 LamX NdefX

section
variable {X : Cx} {P : Gl0} {g : G} {a b c e : Expr} {es : List Expr} {ta tb tc : TD} {tt uu : TB} {tl : TL} {pos : Pos}
variable {E E' : Ex} {H0 H H1 H' : Hp} {ss ss' : SS} {σ σ' : St}

/-! ### slots that change -/
theorem set_get {α : Type} {l : List α} {i j : Nat} {x y : α} (h : (l.set i x)[j]? = some y) : (j = i ∧ y = x) ∨ (j ≠ i ∧ l[j]? = some y) := by
  by_cases e : i = j
  · subst e
    rw [List.getElem?_set] at h
    simp only [if_true] at h
    split at h
    · exact .inl ⟨rfl, (Option.some.inj h).symm⟩
    · cases h
  · rw [List.getElem?_set_ne e] at h
    exact .inr ⟨fun z => e z.symm, h⟩
theorem get_set_ne {α : Type} {l : List α} {i j : Nat} {x : α} (e : j ≠ i) : (l.set i x)[j]? = l[j]? := List.getElem?_set_ne (fun z => e z.symm)
theorem ownA_setV {i : Nat} {v : Option V} {s : Sl} (hs : ∀ d, s ≠ .own d) {x : Addr} (h : ownA (σ.set i v) (ss.set i s) x) : ownA σ ss x := by
  obtain ⟨j, d, h1, h2⟩ := h
  rcases set_get h1 with ⟨_, q⟩ | ⟨q, h1⟩
  · exact (hs d q.symm).elim
  · rw [get_set_ne q] at h2
    exact ⟨j, d, h1, h2⟩
theorem Rg_setV {i : Nat} {v : Option V} {s : Sl} (hs : ∀ d, s ≠ .own d) {x : Addr} (h : Rg g E (σ.set i v) (ss.set i s) x) : Rg g E σ ss x := by
  rcases h with h | h | h
  · exact .inl h
  · exact .inr (.inl h)
  · exact .inr (.inr (ownA_setV hs h))
theorem SG.sub {R R' : Addr → Prop} (h : ∀ a, R' a → R a) (s : SG P g R H) : SG P g R' H := ⟨s.tabs, s.inv, fun a r => s.trk a (h a r), g.hz _ _ _ _ (fun a o n q _ => ⟨q, fun r => n (h a r)⟩) s.pin⟩
/-- a slot gets a value that may be told -/
theorem Stt.set (S : Stt P g E H0 ss σ H) (i : Nat) {v : V} {d : D} (n : Den P g (Rg g E σ ss) H v d) : Stt P g E H0 (ss.set i (.v d)) (σ.set i (some v)) H := by
  have hs : ∀ x, Rg g E (σ.set i (some v)) (ss.set i (.v d)) x → Rg g E σ ss x := fun x => Rg_setV (fun d z => by cases z)
  refine ⟨S.sg.sub hs, E.hz _ _ _ _ (fun a o n q t => ⟨q, fun r => n (hs a r)⟩) S.pin, S.grow, by rw [List.length_set, List.length_set]; exact S.len, fun j d' h => ?_, fun j d' h => ?_, fun j k d1 d2 x h1 h2 h3 h4 => ?_⟩
  · rcases set_get h with ⟨q, e⟩ | ⟨q, h⟩
    · cases e
      subst q
      have hl : j < σ.length := by
        have := (List.getElem?_eq_some_iff.mp h).1
        rw [List.length_set, S.len] at this
        exact this
      exact ⟨v, List.getElem?_set_self hl, Den.mv (Mv.sub hs) n⟩
    · obtain ⟨w, h1, h2⟩ := S.val j d' h
      exact ⟨w, by rw [get_set_ne q]; exact h1, Den.mv (Mv.sub hs) h2⟩
  · rcases set_get h with ⟨q, e⟩ | ⟨q, h⟩
    · cases e
    · obtain ⟨p, h1, h2, h3, h4, h5⟩ := S.own j d' h
      exact ⟨p, by rw [get_set_ne q]; exact h1, h2, h3, h4, h5.mv (Mv.sub hs) fun o z _ => z⟩
  · rcases set_get h1 with ⟨q, e⟩ | ⟨q, h1⟩
    · cases e
    · rcases set_get h2 with ⟨q', e⟩ | ⟨q', h2⟩
      · cases e
      · rw [get_set_ne q] at h3
        rw [get_set_ne q'] at h4
        exact S.uniq j k d1 d2 x h1 h2 h3 h4
/-- a slot is forgotten -/
theorem Stt.wipe1 (S : Stt P g E H0 ss σ H) (i : Nat) {v : Option V} : Stt P g E H0 (ss.set i .u) (σ.set i v) H := by
  have hs : ∀ x, Rg g E (σ.set i v) (ss.set i .u) x → Rg g E σ ss x := fun x => Rg_setV (fun d z => by cases z)
  refine ⟨S.sg.sub hs, E.hz _ _ _ _ (fun a o n q t => ⟨q, fun r => n (hs a r)⟩) S.pin, S.grow, by rw [List.length_set, List.length_set]; exact S.len, fun j d' h => ?_, fun j d' h => ?_, fun j k d1 d2 x h1 h2 h3 h4 => ?_⟩
  · rcases set_get h with ⟨q, e⟩ | ⟨q, h⟩
    · cases e
    · obtain ⟨w, h1, h2⟩ := S.val j d' h
      exact ⟨w, by rw [get_set_ne q]; exact h1, Den.mv (Mv.sub hs) h2⟩
  · rcases set_get h with ⟨q, e⟩ | ⟨q, h⟩
    · cases e
    · obtain ⟨p, h1, h2, h3, h4, h5⟩ := S.own j d' h
      exact ⟨p, by rw [get_set_ne q]; exact h1, h2, h3, h4, h5.mv (Mv.sub hs) fun o z _ => z⟩
  · rcases set_get h1 with ⟨q, e⟩ | ⟨q, h1⟩
    · cases e
    · rcases set_get h2 with ⟨q', e⟩ | ⟨q', h2⟩
      · cases e
      · rw [get_set_ne q] at h3
        rw [get_set_ne q'] at h4
        exact S.uniq j k d1 d2 x h1 h2 h3 h4
/-- a slot gets an object of its own, just made -/
theorem Stt.setOwn (S : Stt P g E H0 ss σ H) (i : Nat) {p : Addr} {o : HO} {d : D} (hp : H p = none) (no : NR o) (c : ∀ (R' : Addr → Prop) (H' : Hp), Mv g g (Rg g E σ ss) R' H H' → H' p = some o → Cont P g R' H' p d) : Stt P g E H0 (ss.set i (.own d)) (σ.set i (some (.ref p))) (upd H p o) := by
  have hs : ∀ x, Rg g E (σ.set i (some (.ref p))) (ss.set i (.own d)) x → Rg g E σ ss x ∨ x = p := fun x h => by
    rcases h with h | h | ⟨j, d', h1, h2⟩
    · exact .inl (.inl h)
    · exact .inl (.inr (.inl h))
    · rcases set_get h1 with ⟨q, e⟩ | ⟨q, h1⟩
      · rcases set_get h2 with ⟨_, e2⟩ | ⟨q2, _⟩
        · cases e2; exact .inr rfl
        · exact (q2 q).elim
      · rw [get_set_ne q] at h2
        exact .inl (.inr (.inr ⟨j, d', h1, h2⟩))
  have S' := S.new (p := p) (o := o) hp
  have at_ : ∀ a u, ¬ Rg g E σ ss a → H a = some u → NT u → upd H p o a = some u ∧ ¬ Rg g E (σ.set i (some (.ref p))) (ss.set i (.own d)) a := fun a u n q t => ⟨by rw [upd_ne (ne_of_none q hp)]; exact q, fun r => (hs a r).elim n (ne_of_none q hp)⟩
  have mv : Mv g g (Rg g E σ ss) (Rg g E (σ.set i (some (.ref p))) (ss.set i (.own d))) H (upd H p o) := ⟨fun a u n q t => at_ a u n q t.nt, fun _ _ b => b⟩
  have np : ∀ x, Rg g E σ ss x → x ≠ p := fun x r z => by
    obtain ⟨u, q, _⟩ := S.sg.trk x r
    rw [z, hp] at q; cases q
  have fp : ¬ Rg g E σ ss p := fun r => np p r rfl
  -- contents are told of things that stood
  have cmv : ∀ {q : Addr} {d' : D}, Cont P g (Rg g E σ ss) H q d' → Cont P g (Rg g E (σ.set i (some (.ref p))) (ss.set i (.own d))) (upd H p o) q d' := fun {q d'} c => c.mv mv fun u z _ => by rw [upd_ne (ne_of_none z hp)]; exact z
  refine ⟨⟨S'.sg.tabs, S'.sg.inv, fun a r => (hs a r).elim (fun r => S'.sg.trk a r) fun z => ⟨o, by rw [z, upd_same], no⟩, g.hz _ _ _ _ at_ S.sg.pin⟩, E.hz _ _ _ _ at_ S.pin, S'.grow, by rw [List.length_set, List.length_set]; exact S.len, fun j d' h => ?_, fun j d' h => ?_, fun j k d1 d2 x h1 h2 h3 h4 => ?_⟩
  · rcases set_get h with ⟨q, e⟩ | ⟨q, h⟩
    · cases e
    · obtain ⟨w, h1, h2⟩ := S.val j d' h
      exact ⟨w, by rw [get_set_ne q]; exact h1, Den.mv mv h2⟩
  · rcases set_get h with ⟨q, e⟩ | ⟨q, h⟩
    · cases e
      subst q
      have hl : j < σ.length := by
        have := (List.getElem?_eq_some_iff.mp h).1
        rw [List.length_set, S.len] at this
        exact this
      refine ⟨p, List.getElem?_set_self hl, S.fresh0 hp, fun m => fp (.inl m), fun m => fp (.inr (.inl m)), c _ _ mv upd_same⟩
    · obtain ⟨p', h1, h2, h3, h4, h5⟩ := S.own j d' h
      exact ⟨p', by rw [get_set_ne q]; exact h1, h2, h3, h4, cmv h5⟩
  · rcases set_get h1 with ⟨q, e⟩ | ⟨q, h1⟩
    · rcases set_get h2 with ⟨q', e'⟩ | ⟨q', h2⟩
      · rw [q, q']
      · rcases set_get h3 with ⟨_, e3⟩ | ⟨q3, _⟩
        · cases e3
          rw [get_set_ne q'] at h4
          exact (fp (.inr (.inr ⟨k, d2, h2, h4⟩))).elim
        · exact (q3 q).elim
    · rcases set_get h2 with ⟨q', e'⟩ | ⟨q', h2⟩
      · rcases set_get h4 with ⟨_, e3⟩ | ⟨q3, _⟩
        · cases e3
          rw [get_set_ne q] at h3
          exact (fp (.inr (.inr ⟨j, d1, h1, h3⟩))).elim
        · exact (q3 q').elim
      · rw [get_set_ne q] at h3
        rw [get_set_ne q'] at h4
        exact S.uniq j k d1 d2 x h1 h2 h3 h4
/-- an object of one's own changes -/
theorem Stt.chg (S : Stt P g E H0 ss σ H) {i : Nat} {p : Addr} {o : HO} {d d' : D} (hi : ss[i]? = some (.own d)) (hp : σ[i]? = some (some (.ref p))) (no : NR o) (c : ∀ H', (∀ a u, ¬ Rg g E σ ss a → H a = some u → NT u → H' a = some u) → H' p = some o → Cont P g (Rg g E σ ss) H' p d') :
    Stt P g E H0 (ss.set i (.own d')) σ (upd H p o) := by
  obtain ⟨p1, e1, f0, nM, nE, c1⟩ := S.own i d hi
  rw [hp] at e1
  cases e1
  have hl : i < ss.length := (List.getElem?_eq_some_iff.mp hi).1
  have ow : ∀ x, ownA σ (ss.set i (.own d')) x ↔ ownA σ ss x := fun x => by
    constructor
    · rintro ⟨j, e, h1, h2⟩
      rcases set_get h1 with ⟨q, z⟩ | ⟨q, h1⟩
      · subst q; exact ⟨j, d, hi, h2⟩
      · exact ⟨j, e, h1, h2⟩
    · rintro ⟨j, e, h1, h2⟩
      by_cases q : j = i
      · subst q; exact ⟨j, d', List.getElem?_set_self hl, h2⟩
      · exact ⟨j, e, by rw [get_set_ne q]; exact h1, h2⟩
  have rg : Rg g E σ (ss.set i (.own d')) = Rg g E σ ss := by
    funext x
    unfold Rg
    rw [propext (ow x)]
  have inR : Rg g E σ ss p := .inr (.inr ⟨i, d, hi, hp⟩)
  have kp : ∀ a u, ¬ Rg g E σ ss a → H a = some u → NT u → upd H p o a = some u := fun a u n q _ => by rw [upd_ne (fun z => n (by rw [z]; exact inR))]; exact q
  have at_ : ∀ a u, ¬ Rg g E σ ss a → H a = some u → NT u → upd H p o a = some u ∧ ¬ Rg g E σ ss a := fun a u n q t => ⟨kp a u n q t, n⟩
  have mv : Mv g g (Rg g E σ ss) (Rg g E σ ss) H (upd H p o) := ⟨fun a u n q t => at_ a u n q t.nt, fun _ _ b => b⟩
  have hpH := c1.there
  obtain ⟨op, hop, nop⟩ := hpH
  have nW : ¬ g.W p := fun w => nM (g.hW p w)
  refine ⟨?_, ?_, ?_, by rw [List.length_set]; exact S.len, fun j e h => ?_, fun j e h => ?_, fun j k d1 d2 x h1 h2 h3 h4 => ?_⟩
  · rw [rg]
    refine ⟨fun q hq => ?_, g.hinv _ _ (fun a u w q => by rw [upd_ne (fun z => nW (by rw [← z]; exact w))]; exact q) S.sg.inv, fun a r => ?_, g.hz _ _ _ _ at_ S.sg.pin⟩
    · obtain ⟨ps, q1, q2, q3⟩ := S.sg.tabs q hq
      have ne : ∀ {b : Addr} {u : HO}, H b = some u → (∃ ps, u = .tbl ps) ∨ (∃ φ, u = .ext φ) → b ≠ p := fun {b u} hb hu z => by
        rw [z] at hb
        rw [hop] at hb
        cases hb
        cases c1 with
        | lst h _ => rw [hop] at h; cases h; rcases hu with ⟨_, q⟩ | ⟨_, q⟩ <;> cases q
        | dK h _ _ => rw [hop] at h; cases h; rcases hu with ⟨_, q⟩ | ⟨_, q⟩ <;> cases q
        | dT h _ _ => rw [hop] at h; cases h; rcases hu with ⟨_, q⟩ | ⟨_, q⟩ <;> cases q
        | ins h _ => rw [hop] at h; cases h; rcases hu with ⟨_, q⟩ | ⟨_, q⟩ <;> cases q
        | insA h _ => rw [hop] at h; cases h; rcases hu with ⟨_, q⟩ | ⟨_, q⟩ <;> cases q
      refine ⟨ps, by rw [upd_ne (ne q1 (.inl ⟨ps, rfl⟩))]; exact q1, q2, fun pos cv hc => ?_⟩
      obtain ⟨c', e1, e2⟩ := q3 pos cv hc
      exact ⟨c', e1, by rw [upd_ne (ne e2 (.inr ⟨_, rfl⟩))]; exact e2⟩
    · by_cases z : a = p
      · exact ⟨o, by rw [z, upd_same], no⟩
      · obtain ⟨u, q, n⟩ := S.sg.trk a r
        exact ⟨u, by rw [upd_ne z]; exact q, n⟩
  · rw [rg]
    exact E.hz _ _ _ _ at_ S.pin
  · exact S.grow.mut f0
  · rcases set_get h with ⟨q, z⟩ | ⟨q, h⟩
    · cases z
    · obtain ⟨w, h1, h2⟩ := S.val j e h
      rw [rg]
      exact ⟨w, h1, Den.mv mv h2⟩
  · rw [rg]
    rcases set_get h with ⟨q, z⟩ | ⟨q, h⟩
    · cases z
      subst q
      exact ⟨p, hp, f0, nM, nE, c _ kp upd_same⟩
    · obtain ⟨p', h1, h2, h3, h4, h5⟩ := S.own j e h
      refine ⟨p', h1, h2, h3, h4, h5.mv mv fun u z _ => ?_⟩
      rw [upd_ne (fun y => q (S.uniq j i e d p h hi (by rw [← y]; exact h1) hp))]
      exact z
  · have old : ∀ {j : Nat} {d1 : D}, (ss.set i (.own d'))[j]? = some (.own d1) → ∃ d2, ss[j]? = some (.own d2) := fun {j d1} h => by
      rcases set_get h with ⟨q, _⟩ | ⟨_, h⟩
      · subst q; exact ⟨d, hi⟩
      · exact ⟨d1, h⟩
    obtain ⟨e1, h1⟩ := old h1
    obtain ⟨e2, h2⟩ := old h2
    exact S.uniq j k e1 e2 x h1 h2 h3 h4
/-- an object of one's own is told of from now on -/
def frz1 (i : Nat) (ss : SS) : SS := match ss[i]? with
  | some (.own d) => ss.set i (.v d)
  | _ => ss
def frz : List Nat → SS → SS
  | [], ss => ss
  | i :: is, ss => frz is (frz1 i ss)
theorem Stt.frz1 (S : Stt P g E H0 ss σ H) (i : Nat) : Stt P g E H0 (DL.frz1 i ss) σ H := by
  unfold DL.frz1
  split
  · rename_i d hi
    obtain ⟨p, e1, f0, nM, nE, c1⟩ := S.own i d hi
    have hl : i < σ.length := (List.getElem?_eq_some_iff.mp e1).1
    have es : σ.set i (some (.ref p)) = σ := by
      apply List.ext_getElem?
      intro j
      by_cases q : j = i
      · subst q; rw [List.getElem?_set_self hl, e1]
      · rw [get_set_ne q]
    have hs : ∀ x, Rg g E σ (ss.set i (.v d)) x → Rg g E σ ss x := fun x h => by
      have h' : Rg g E (σ.set i (some (.ref p))) (ss.set i (.v d)) x := by rw [es]; exact h
      exact Rg_setV (fun d z => by cases z) h'
    have np : ¬ Rg g E σ (ss.set i (.v d)) p := fun r => by
      rcases r with r | r | ⟨j, e, h1, h2⟩
      · exact nM r
      · exact nE r
      · rcases set_get h1 with ⟨_, z⟩ | ⟨q, h1⟩
        · cases z
        · exact q (S.uniq j i e d p h1 hi h2 e1)
    refine ⟨S.sg.sub hs, E.hz _ _ _ _ (fun a o n q t => ⟨q, fun r => n (hs a r)⟩) S.pin, S.grow, by rw [List.length_set]; exact S.len, fun j d' h => ?_, fun j d' h => ?_, fun j k d1 d2 x h1 h2 h3 h4 => ?_⟩
    · rcases set_get h with ⟨q, z⟩ | ⟨q, h⟩
      · cases z
        subst q
        exact ⟨_, e1, (c1.mv (Mv.sub hs) fun o z _ => z).den np⟩
      · obtain ⟨w, h1, h2⟩ := S.val j d' h
        exact ⟨w, h1, Den.mv (Mv.sub hs) h2⟩
    · rcases set_get h with ⟨q, z⟩ | ⟨q, h⟩
      · cases z
      · obtain ⟨p', h1, h2, h3, h4, h5⟩ := S.own j d' h
        exact ⟨p', h1, h2, h3, h4, h5.mv (Mv.sub hs) fun o z _ => z⟩
    · rcases set_get h1 with ⟨_, z⟩ | ⟨_, h1⟩
      · cases z
      · rcases set_get h2 with ⟨_, z⟩ | ⟨_, h2⟩
        · cases z
        · exact S.uniq j k d1 d2 x h1 h2 h3 h4
  · exact S
theorem Stt.frz : ∀ {is : List Nat} {ss : SS}, Stt P g E H0 ss σ H → Stt P g E H0 (DL.frz is ss) σ H
  | [], _, S => S
  | i :: is, ss, S => Stt.frz (is := is) (ss := DL.frz1 i ss) (S.frz1 i)
end
end DL

set_option maxRecDepth 100000
set_option maxHeartbeats 4000000
namespace DL
open PySem L2 LamX NdefX

section
variable {X : Cx} {P : Gl0} {g : G} {a b c e : Expr} {es : List Expr} {ta tb tc : TD} {tt uu : TB} {tl : TL} {ts us : TSt} {pos : Pos} {st : Stmt} {rest : List Stmt}
variable {E E' : Ex} {H0 H H1 H' : Hp} {ss ss' : SS} {σ σ' : St}

/-! ### blocks -/
def vNext : TSt := fun N ss => N.nx ss
def vSeq (t u : TSt) : TSt := fun N ss => t { N with nx := u N } ss
def vBreak : TSt := fun N ss => N.bk ss
def vCont : TSt := fun N ss => N.ct ss
theorem ss_nil : DSs X P g [] vNext := DSs.of pss_nil fun σ H E H0 ss N S T h => ⟨ss, S, h⟩
theorem ss_cons (h1 : DS X P g st ts) (h2 : DSs X P g rest us) : DSs X P g (st :: rest) (vSeq ts us) :=
  DSs.of (pss_cons h1.ps h2.pss) fun σ H E H0 ss N S T h => upS.run (N := { N with nx := us N }) S T h (fun σ' H' ⟨ss', S', h'⟩ => upS.run (N := N) S' T h' (fun _ _ z => z) (fun _ _ z => z) (fun _ _ z => z) (fun _ _ z => z)) (fun _ _ z => z) (fun _ _ z => z) (fun _ _ z => z)
theorem ss_one (h1 : DS X P g st ts) : DSs X P g [st] ts :=
  DSs.of (pss_one h1.ps) fun σ H E H0 ss N S T h => upS.run S T h (fun _ _ z => z) (fun _ _ z => z) (fun _ _ z => z) (fun _ _ z => z)
theorem s_pass : DS X P g (.Pass pos) vNext := DS.of ps_pass fun σ H E H0 ss N S T h => ⟨ss, S, h⟩
theorem s_break : DS X P g (.Break pos) vBreak := DS.of ps_break fun σ H E H0 ss N S T h => ⟨ss, S, h⟩
theorem s_continue : DS X P g (.Continue pos) vCont := DS.of ps_continue fun σ H E H0 ss N S T h => ⟨ss, S, h⟩
theorem s_doc {x j pos pos'} : DS X P g (.Expr (.Constant (.str x) j pos) pos') vNext := DS.of ps_doc fun σ H E H0 ss N S T h => ⟨ss, S, h⟩
def vNever : TSt := fun _ _ => False
theorem s_never : DS X P g st vNever := ⟨fun _ _ _ _ _ _ _ _ _ _ _ h => h.elim⟩
theorem ss_never : DSs X P g rest vNever := ⟨fun _ _ _ _ _ _ _ _ _ _ _ h => h.elim⟩
/-- own objects told of in this statement (and from then on) -/
def vFrz (is : List Nat) (t : TSt) : TSt := fun N ss => t N (frz is ss)
theorem s_frz (is : List Nat) (h : DS X P g st ts) : DS X P g st (vFrz is ts) := ⟨fun pins s σ H E H0 ss N I S T ht => h.run pins s σ H E H0 (frz is ss) N I S.frz T ht⟩
/-- own objects lent to an expression whose value is flat -/
def flat : D → Bool
  | .non | .bl _ | .int _ | .str _ => true
  | _ => false
theorem flat_den {R R' : Addr → Prop} {v : V} {d : D} (f : flat d = true) (n : Den P g R H v d) : Den P g R' H' v d := by
  cases n <;> first | exact .non | exact .bl | exact .int | exact .str | cases f
def vBor (is : List Nat) (t : TD) : TD := fun ss Q Qx => t (frz is ss) (fun d => flat d = true ∧ Q d) Qx
def vBorT (is : List Nat) (t : TB) : TB := fun ss Q Qx => t (frz is ss) Q Qx
theorem Rg_W {x : Addr} (w : g.W x) : Rg g E σ ss x := Rg.W w
theorem Stt.back {σ' : St} (S : Stt P g E H0 ss σ H) (S' : Stt P g E' H0 ss' σ' H') (e : Ext g.W H H') : Stt P g E H0 ss σ H' :=
  S.ext e ⟨S'.sg.tabs, S'.sg.inv, fun a r => by
    obtain ⟨o, q, n⟩ := S.sg.trk a r
    by_cases w : g.W a
    · exact S'.sg.trk a (Rg.W w)
    · exact ⟨o, e.keep a o q n.nt w, n⟩, pinW (fun a w => Rg.W w) e S.sg.pin⟩
theorem d_bor (is : List Nat) (h : DE X P g e ta) : DE X P g e (vBor is ta) := DE.of h.pe fun σ H E H0 ss Q Qx S T ht => upE.run S.frz T ht fun v H' d S' e' n q =>
  ⟨d, S.back S' e', e', flat_den q.1 n, q.2⟩
theorem t_bor (is : List Nat) (h : DT X P g e tt) : DT X P g e (vBorT is tt) := DT.of h.pt fun σ H E H0 ss Q Qx S T ht => upT.run S.frz T ht fun b H' S' e' q => ⟨S.back S' e', e', q⟩
/-! ### plain statements -/
def vSet (i : Nat) (ta : TD) : TSt := fun N ss => ta ss (fun d => N.nx (ss.set i (.v d))) N.ex
theorem s_set (i : Nat) {x : Str} {pos' : Pos} (hN : X.N.Nodup) (he : DE X P g e ta) (hi : X.N[i]? = some x := by rfl) (hx : Loc X.env.scope x := by first | exact Or.inl rfl | exact Or.inr rfl) (hs : swapsWith e (some (.Name x pos')) pos.line X.env = pure false := by rfl) (hf : X.fn x = true ∨ X.env.scope.names.lookup x = some .local := by first | exact .inl rfl | exact .inr rfl | assumption) :
    DS X P g (.Assign [.Name x pos'] e pos) (vSet i ta) := DS.of (ps_set hN hi hx he.pe hs hf) fun σ H E H0 ss N S T h => upE.run S T h fun v H' d S' e' n q => ⟨_, S'.set i n, q⟩
def vDrop (ta : TD) : TSt := fun N ss => ta ss (fun _ => N.nx ss) N.ex
theorem s_expr (he : DE X P g e ta) (hs : swapsWith e none pos.line X.env = pure false := by rfl) : DS X P g (.Expr e pos) (vDrop ta) := DS.of (ps_expr he.pe hs) fun σ H E H0 ss N S T h => upE.run S T h fun v H' d S' e' n q => ⟨_, S', q⟩
def vRet (ta : TD) : TSt := fun N ss => ta ss N.rt N.ex
theorem s_ret (he : DE X P g e ta) : DS X P g (.Return (some e) pos) (vRet ta) := DS.of (ps_ret he.pe) fun σ H E H0 ss N S T h => upE.run S T h fun v H' d S' e' n q =>
  ⟨d, σ, ss, S', Den.mv (Mv.sub fun a r => r.elim .inl fun z => .inr (.inl z)) n, q⟩
def vRetN : TSt := fun N _ => N.rt .non
theorem s_retN : DS X P g (.Return none pos) vRetN := DS.of ps_retN fun σ H E H0 ss N S T h => ⟨.non, σ, ss, S, .non, h⟩
def vIfS (c : TB) (t u : TSt) : TSt := fun N ss => c ss (fun b => match b with | true => t N ss | false => u N ss) N.ex
theorem s_if {body orelse : List Stmt} (hc : DT X P g c tt) (ha : DSs X P g body ts) (hb : DSs X P g orelse us) : DS X P g (.If c body orelse pos) (vIfS tt ts us) :=
  DS.of (ps_if hc.pt ha.pss hb.pss) fun σ H E H0 ss N S T h => upT.run S T h fun b H' S' e' q => by
    cases b with
    | true => exact iteT (upS.run S' T q (fun _ _ z => z) (fun _ _ z => z) (fun _ _ z => z) (fun _ _ z => z))
    | false => exact iteF (upS.run S' T q (fun _ _ z => z) (fun _ _ z => z) (fun _ _ z => z) (fun _ _ z => z))
/-! ### lists that are made -/
structure DN (X : Cx) (P : Gl0) (g : G) (e : Expr) (t : TL) : Prop where
  ex : ∃ te : TE, PE X e te ∧ ∀ (σ : St) (H : Hp) (E : Ex) (H0 : Hp) (ss : SS) (Q : List D → Prop) (Qx : Err → SS → Prop) (K : VK), Stt P g E H0 ss σ H → TX X P g E H0 Qx → t ss Q Qx →
    (∀ H1 p vs l, Stt P g E H0 ss σ H1 → Ext g.W H H1 → H1 p = none → DenL P g (Rg g E σ ss) H1 vs l → Q l → K (.ref p) (upd H1 p (.lst vs))) → te σ H K
def vNew (t : TL) : TD := fun ss Q Qx => t ss (fun l => Q (.lst l)) Qx
theorem DN.de (h : DN X P g e tl) : DE X P g e (vNew tl) := by
  obtain ⟨te, h1, h2⟩ := h.ex
  exact DE.of h1 fun σ H E H0 ss Q Qx S T ht => h2 σ H E H0 ss _ Qx _ S T ht fun H1 p vs l S1 e1 hp n q => EPD.back e1 (.lst S1 hp n q)
def vOwn (i : Nat) (t : TL) : TSt := fun N ss => t ss (fun l => N.nx (ss.set i (.own (.lst l)))) N.ex
theorem s_own (i : Nat) {x : Str} {pos' : Pos} (hN : X.N.Nodup) (he : DN X P g e tl) (hi : X.N[i]? = some x := by rfl) (hx : Loc X.env.scope x := by first | exact Or.inl rfl | exact Or.inr rfl) (hs : swapsWith e (some (.Name x pos')) pos.line X.env = pure false := by rfl) (hf : X.fn x = true ∨ X.env.scope.names.lookup x = some .local := by first | exact .inl rfl | exact .inr rfl | assumption) :
    DS X P g (.Assign [.Name x pos'] e pos) (vOwn i tl) := by
  obtain ⟨te, h1, h2⟩ := he.ex
  exact DS.of (ps_set hN hi hx h1 hs hf) fun σ H E H0 ss N S T h => h2 σ H E H0 ss _ _ _ S T h fun H1 p vs l S1 e1 hp n q => ⟨_, S1.setOwn i hp NR.lst fun R' H' m z => .lst z (DenL.mv m n), q⟩
theorem n_lst (h : DA X P g es tl) : DN X P g (.List es pos) (fun ss Q Qx => tl ss (fun l => l.length ≤ 100000 ∧ Q l) Qx) :=
  ⟨_, pe_lst h.pa, fun σ H E H0 ss Q Qx K S T h k => upA.run S T h fun vs H' ds S' e ns q => ⟨by rw [ns.length]; exact line5 q.1, fun p hp => k H' p vs ds S' e hp ns q.2⟩⟩
def isL (Q : List D → Prop) : D → Prop
  | .lst l => Q l
  | _ => False
theorem isL.ok {Q : List D → Prop} {d : D} (h : isL Q d) : ∃ l, d = .lst l ∧ Q l := by
  cases d with
  | lst l => exact ⟨l, rfl, h⟩
  | _ => exact h.elim
theorem n_cat (ha : DE X P g a ta) (hb : DE X P g b tb) : DN X P g (.BinOp a .Add b pos) (fun ss Q Qx => ta ss (isL fun l => tb ss (isL fun m => l.length + m.length ≤ sizeLine ∧ Q (l ++ m)) Qx) Qx) :=
  ⟨_, pe_op op_cat ha.pe hb.pe, fun σ H E H0 ss Q Qx K S T h k => upE.run S T h fun x H1 dx S1 e1 n1 q1 => by
    obtain ⟨l, rfl, q1⟩ := q1.ok
    refine upE.run S1 T q1 fun y H2 dy S2 e2 n2 q2 => ?_
    obtain ⟨m, rfl, q2, q3⟩ := q2.ok
    obtain ⟨p, vs, rfl, _, hp, l1⟩ := (den_W e2 n1).of_lst
    obtain ⟨p', ws, rfl, _, hp', l2⟩ := n2.of_lst
    exact ⟨p, p', vs, ws, rfl, rfl, hp, hp', by rw [l1.length, l2.length]; exact q2, fun z hz => k H2 z _ _ S2 (e1.trans e2) hz (l1.append l2) q3⟩⟩
def isIn (Q : Int → Prop) : D → Prop
  | .int l => Q l
  | _ => False
theorem isIn.ok {Q : Int → Prop} {d : D} (h : isIn Q d) : ∃ l, d = .int l ∧ Q l := by
  cases d with
  | int l => exact ⟨l, rfl, h⟩
  | _ => exact h.elim
theorem n_rep (ha : DE X P g a ta) (hb : DE X P g b tb) : DN X P g (.BinOp a .Mult b pos) (fun ss Q Qx => ta ss (isL fun l => tb ss (isIn fun k => (k < 1000000 ∧ -1000000 < k) ∧ l.length * k.toNat ≤ sizeLine ∧ Q (List.replicate k.toNat l).flatten) Qx) Qx) :=
  ⟨_, pe_op op_rep ha.pe hb.pe, fun σ H E H0 ss Q Qx K S T h k => upE.run S T h fun x H1 dx S1 e1 n1 q1 => by
    obtain ⟨l, rfl, q1⟩ := q1.ok
    refine upE.run S1 T q1 fun y H2 dy S2 e2 n2 q2 => ?_
    obtain ⟨m, rfl, q2, q3, q4⟩ := q2.ok
    obtain ⟨p, vs, rfl, _, hp, l1⟩ := (den_W e2 n1).of_lst
    cases n2
    exact ⟨p, _, vs, rfl, rfl, hp, by omega, by omega, by rw [l1.length]; exact q3, fun z hz => k H2 z _ _ S2 (e1.trans e2) hz (l1.rep _) q4⟩⟩
theorem n_slice {lo hi : Option Expr} {tl th : TO'} {p2 : Pos} (ha : DE X P g a ta) (hl : DO X P g lo tl) (hh : DO X P g hi th) : DN X P g (.Subscript a (.Slice lo hi none p2) pos) (fun ss Q Qx => ta ss (isL fun l => tl ss (fun i => th ss (fun j => Q (cutD l i j)) Qx) Qx) Qx) := by
  obtain ⟨l1, l2, l3⟩ := hl
  obtain ⟨h1, h2, h3⟩ := hh
  refine ⟨_, pe_slice sl_list ha.pe l2 h2, fun σ H E H0 ss Q Qx K S T h k => upE.run S T h fun x H1 dx S1 e1 n1 q1 => ?_⟩
  obtain ⟨l, rfl, q1⟩ := q1.ok
  refine l3 σ H1 E H0 ss _ Qx _ S1 T q1 fun i H2 S2 e2 q2 => h3 σ H2 E H0 ss _ Qx _ S2 T q2 fun j H3 S3 e3 q3 => ?_
  obtain ⟨p, vs, rfl, n, hp, l⟩ := (den_W e3 (den_W e2 n1)).of_lst
  exact ⟨p, vs, rfl, SqL.of hp, fun p' hp' => k H3 p' _ _ S3 ((e1.trans e2).trans e3) hp' (l.cut i j) q3⟩
theorem n_list {x : Str} {p : Pos} (hg : Gl X x) (hm : X.mg x = none) (hv : bootBuiltins x = some (.type "list")) (ha : DE X P g e ta) (hn : x ≠ "__name__" := by decide) (hdb : (x == ("__debug__" : Str)) = false := by decide)
    (he : starEach [e] X.env = (false, eval e X.env) :: starEach [] X.env := by rfl) (hpl : (backTo pos (starEach [] X.env)).any (·.1) = false := by rfl) :
    DN X P g (.Call (.Name x p) [e] [] pos) (fun ss Q Qx => ta ss (fun d => match d with | .lst l => Q l | .tup l => Q l | _ => False) Qx) :=
  ⟨_, pe_callTy call_list_of hg hm hv (pa_cons ha.pe pa_nil he) hn hdb he hpl, fun σ H E H0 ss Q Qx K S T h k => upE.run S T h fun x H1 dx S1 e1 n1 q1 => by
    cases dx with
    | lst l =>
      obtain ⟨p, vs, rfl, _, hp, l1⟩ := n1.of_lst
      exact ⟨p, vs, rfl, .inl (SqL.of hp), fun z hz => k H1 z _ _ S1 e1 hz l1 q1⟩
    | tup l =>
      obtain ⟨p, vs, rfl, _, hp, l1⟩ := n1.of_tup
      exact ⟨p, vs, rfl, .inr (SqT.of hp), fun z hz => k H1 z _ _ S1 e1 hz l1 q1⟩
    | _ => exact q1.elim⟩
/-! ### lists of one's own that change -/
def isOwnL (o : Option Sl) (Q : List D → Prop) : Prop := match o with
  | some (.own (.lst l)) => Q l
  | _ => False
theorem isOwnL.ok {o : Option Sl} {Q : List D → Prop} (h : isOwnL o Q) : ∃ l, o = some (.own (.lst l)) ∧ Q l := by
  unfold isOwnL at h
  split at h
  · exact ⟨_, rfl, h⟩
  · exact h.elim
theorem Stt.ownL (S : Stt P g E H0 ss σ H) {i : Nat} {l : List D} (h : ss[i]? = some (.own (.lst l))) : ∃ p vs, σ[i]? = some (some (.ref p)) ∧ H p = some (.lst vs) ∧ DenL P g (Rg g E σ ss) H vs l ∧ Rg g E σ ss p := by
  obtain ⟨p, h1, _, _, _, c⟩ := S.own i _ h
  cases c with
  | lst h2 h3 => exact ⟨p, _, h1, h2, h3, .inr (.inr ⟨i, _, h, h1⟩)⟩
/-- x.append(e) -/
def vApp (i : Nat) (ta : TD) : TSt := fun N ss => isOwnL ss[i]? fun l => ta ss (fun d => l.length < 1000000 ∧ N.nx (ss.set i (.own (.lst (l ++ [d]))))) N.ex
theorem kpR {R : Addr → Prop} {vs : List V} {l : List D} (h : DenL P g R H vs l) (k : ∀ a u, ¬ R a → H a = some u → NT u → H' a = some u) : DenL P g R H' vs l := DenL.mv ⟨fun a u n q t => ⟨k a u n q t.nt, n⟩, fun _ _ b => b⟩ h
theorem s_app (i : Nat) (he : DE X P g e ta) (hp : ∀ te, PE X e te → PS X st (tDrop (tBM X.K "list" rAppend (tVar i) (tCons te tNil)))) : DS X P g st (vApp i ta) :=
  DS.of (hp _ he.pe) fun σ H E H0 ss N S T h => by
    obtain ⟨l, hl, h⟩ := h.ok
    obtain ⟨p, vs, h1, h2, h3, h4⟩ := S.ownL hl
    refine ⟨.ref p, h1, .inl ⟨rfl, _, SqL.of h2⟩, upE.run S T h fun v H1 d S1 e1 n1 q1 => ?_⟩
    obtain ⟨p', vs', h1', h2', h3', _⟩ := S1.ownL hl
    rw [h1] at h1'
    cases h1'
    exact ⟨p, vs', v, rfl, rfl, h2', by rw [h3'.length]; exact Nat.lt_of_lt_of_le q1.1 (by decide), _, S1.chg hl h1 NR.lst (fun H' k z => .lst z ((kpR h3' k).append (.cons (Den.mv ⟨fun a u n q t => ⟨k a u n q t.nt, n⟩, fun _ _ b => b⟩ n1) .nil))), q1.2⟩
/-- x[k] = e -/
def vSto (i : Nat) (tb ta : TD) : TSt := fun N ss => ta ss (fun d => isOwnL ss[i]? fun l => tb ss (isIn fun k => match ixN l.length k with | some j => N.nx (ss.set i (.own (.lst (l.set j d)))) | none => False) N.ex) N.ex
theorem s_sto (i : Nat) (hb : DE X P g b tb) (he : DE X P g e ta) (hp : ∀ te tk, PE X e te → PE X b tk → PS X st (tAsg te (gSub (tVar i) tk rSetL))) : DS X P g st (vSto i tb ta) :=
  DS.of (hp _ _ he.pe hb.pe) fun σ H E H0 ss N S T h => upE.run S T h fun v H1 d S1 e1 n1 q1 => by
    obtain ⟨l, hl, q1⟩ := q1.ok
    obtain ⟨p, vs, h1, h2, h3, h4⟩ := S1.ownL hl
    refine ⟨.ref p, h1, upE.run S1 T q1 fun w H2 dk S2 e2 n2 q2 => ?_⟩
    obtain ⟨k, ek, q3⟩ := q2.ok
    subst ek
    cases n2
    obtain ⟨p', vs', h1', h2', h3', _⟩ := S2.ownL hl
    rw [h1] at h1'
    cases h1'
    cases hj : ixN l.length k with
    | none => rw [hj] at q3; exact q3.elim
    | some j =>
      rw [hj] at q3
      exact ⟨p, vs', k, j, rfl, rfl, h2', by rw [h3'.length]; exact hj, _, S2.chg hl h1 NR.lst (fun H' k z => .lst z (DenL.set (Den.mv ⟨fun a u n q t => ⟨k a u n q t.nt, n⟩, fun _ _ b => b⟩ (den_W e2 n1)) j (kpR h3' k))), q3⟩
/-! ### targets -/
def setN (js : List Nat) (ds : List D) (ss : SS) : SS := match js, ds with
  | j :: js, d :: ds => setN js ds (ss.set j (.v d))
  | _, _ => ss
abbrev TG' := D → SS → (SS → Prop) → Prop
/-- no object of one's own in these slots -/
def noOwn (ss : SS) : List Nat → Prop
  | [] => True
  | j :: js => (match ss[j]? with | some (.own _) => False | _ => True) ∧ noOwn ss js
theorem noOwn.at {ss : SS} : ∀ {js : List Nat}, noOwn ss js → ∀ j ∈ js, ∀ d, ss[j]? ≠ some (.own d)
  | j :: js, h, k, hk, d, e => by
    rcases List.mem_cons.mp hk with z | z
    · subst z
      have h1 := h.1
      rw [e] at h1
      exact h1
    · exact noOwn.at h.2 k z d e
theorem rg_setV {j : Nat} {v : Option V} {s : Sl} (h : ∀ d, ss[j]? ≠ some (.own d)) (x : Addr) (r : Rg g E σ ss x) : Rg g E (σ.set j v) (ss.set j s) x := by
  rcases r with r | r | ⟨i, d, h1, h2⟩
  · exact .inl r
  · exact .inr (.inl r)
  · have q : i ≠ j := fun e => by
      rw [e] at h1
      exact h d h1
    exact .inr (.inr ⟨i, d, by rw [get_set_ne q]; exact h1, by rw [get_set_ne q]; exact h2⟩)
structure DG (X : Cx) (P : Gl0) (g : G) (tg : Expr) (js : List Nat) (t : TG') : Prop where
  ex : ∃ gt : TG, PG X tg gt ∧ ∀ (v : V) (d : D) (σ : St) (H : Hp) (E : Ex) (H0 : Hp) (ss : SS) (Q : SS → Prop) (K : St → Hp → Prop), Stt P g E H0 ss σ H → Den P g (Rg g E σ ss) H v d → t d ss Q →
    (∀ σ' ss', Stt P g E H0 ss' σ' H → (∀ x, Rg g E σ' ss' x → Rg g E σ ss x) → (noOwn ss js → ∀ x, Rg g E σ ss x → Rg g E σ' ss' x) → wipe σ' js = wipe σ js → Q ss' → K σ' H) → gt v σ H K
def gV (j : Nat) : TG' := fun d ss Q => Q (ss.set j (.v d))
theorem wipe_set (σ : St) (v : Option V) : ∀ (js : List Nat) (j : Nat), j ∈ js → wipe (σ.set j v) js = wipe σ js
  | [], _, h => by cases h
  | k :: js, j, h => by
    unfold wipe
    by_cases e : j ∈ js
    · rw [wipe_set σ v js j e]
    · have ek : j = k := by
        rcases List.mem_cons.mp h with h | h
        · exact h
        · exact (e h).elim
      subst ek
      have go : ∀ (js : List Nat), j ∉ js → wipe (σ.set j v) js = (wipe σ js).set j v := by
        intro js
        induction js with
        | nil => intro _; rfl
        | cons m js ih =>
          intro hm
          rw [List.mem_cons, not_or] at hm
          unfold wipe
          rw [ih hm.2, List.set_comm _ _ hm.1]
      rw [go js e, List.set_set]
theorem g_name (j : Nat) {x : Str} {pos' : Pos} (hN : X.N.Nodup) (hi : X.N[j]? = some x := by rfl) (hx : Loc X.env.scope x := by first | exact Or.inl rfl | exact Or.inr rfl) (hf : X.fn x = true ∨ X.env.scope.names.lookup x = some .local := by first | exact .inl rfl | exact .inr rfl | assumption) (js : List Nat := [j]) (hj : j ∈ js := by decide) : DG X P g (.Name x pos') js (gV j) :=
  ⟨_, pg_name hN hi hx hf, fun v d σ H E H0 ss Q K S n h k => k _ _ (S.set j n) (fun x r => Rg_setV (fun d z => by cases z) r) (fun no x r => rg_setV (no.at j hj) x r) (wipe_set σ _ js j hj) h⟩
end
end DL

set_option maxRecDepth 100000
set_option maxHeartbeats 4000000
namespace DL
open PySem L2 LamX NdefX

section
variable {X : Cx} {P : Gl0} {g : G} {a b c e tg iter elt : Expr} {es : List Expr} {ta tb tc te : TD} {tt uu : TB} {tl : TL} {ts us : TSt} {pos : Pos} {st : Stmt} {rest body : List Stmt} {js : List Nat} {tgt : TG'}
variable {E E' : Ex} {H0 H H1 H' : Hp} {ss ss' : SS} {σ σ' : St}

/-- a tuple of names -/
theorem stt_setN : ∀ (js : List Nat) {vs : List V} {ds : List D} {σ : St} {ss : SS}, Stt P g E H0 ss σ H → DenL P g (Rg g E σ ss) H vs ds → js.length = ds.length →
    ∃ σ', Stt P g E H0 (setN js ds ss) σ' H ∧ (∀ x, Rg g E σ' (setN js ds ss) x → Rg g E σ ss x) ∧ ((∀ j ∈ js, ∀ d, ss[j]? ≠ some (.own d)) → ∀ x, Rg g E σ ss x → Rg g E σ' (setN js ds ss) x) ∧ σ' = (js.zip vs).foldl (fun s p => s.set p.1 (some p.2)) σ := by
  intro js
  induction js with
  | nil =>
    intro vs ds σ ss S n h
    cases ds with
    | nil => exact ⟨σ, S, fun _ r => r, fun _ _ r => r, rfl⟩
    | cons d ds => simp at h
  | cons j js ih =>
    intro vs ds σ ss S n h
    cases ds with
    | nil => simp at h
    | cons d ds =>
      cases n with
      | cons n1 n2 =>
        rename_i v vs
        have S1 := S.set j n1
        have hs : ∀ x, Rg g E (σ.set j (some v)) (ss.set j (.v d)) x → Rg g E σ ss x := fun x r => Rg_setV (fun d z => by cases z) r
        obtain ⟨σ', a, b, bb, c⟩ := ih S1 (DenL.mv (Mv.sub hs) n2) (by simpa using h)
        refine ⟨σ', a, fun x r => hs x (b x r), fun no x r => bb (fun k hk d' z => ?_) x (rg_setV (no j List.mem_cons_self) x r), c⟩
        rcases set_get z with ⟨_, z⟩ | ⟨_, z⟩
        · cases z
        · exact no k (List.mem_cons_of_mem _ hk) d' z
theorem wipe_fold (js ks : List Nat) (hk : ∀ k ∈ ks, k ∈ js) : ∀ (vs : List V) (σ : St), wipe ((ks.zip vs).foldl (fun s p => s.set p.1 (some p.2)) σ) js = wipe σ js := by
  induction ks with
  | nil => intro vs σ; rfl
  | cons k ks ih =>
    intro vs σ
    cases vs with
    | nil => rfl
    | cons v vs =>
      rw [List.zip_cons_cons, List.foldl_cons, ih (fun k h => hk k (List.mem_cons_of_mem _ h)), wipe_set _ _ _ _ (hk k List.mem_cons_self)]
def gT (ks : List Nat) : TG' := fun d ss Q => match d with
  | .tup l => l.length = ks.length ∧ Q (setN ks l ss)
  | _ => False
/-- a tuple of two names, of three -/
theorem g_two (i j : Nat) {x y : Str} {p1 p2 p3 : Pos} {kk : Nat} (hc : X.calm = true) (hN : X.N.Nodup) (hi : X.N[i]? = some x := by rfl) (hj : X.N[j]? = some y := by rfl) (hx : Loc X.env.scope x := by first | exact Or.inl rfl | exact Or.inr rfl) (hy : Loc X.env.scope y := by first | exact Or.inl rfl | exact Or.inr rfl)
    (hfx : X.fn x = true ∨ X.env.scope.names.lookup x = some .local := by first | exact .inl rfl | exact .inr rfl | assumption) (hfy : X.fn y = true ∨ X.env.scope.names.lookup y = some .local := by first | exact .inl rfl | exact .inr rfl | assumption) (js : List Nat := [i, j]) (hj : ∀ k ∈ [i, j], k ∈ js := by decide) :
    DG X P g (.Tuple [.Name x p1, .Name y p2] kk p3) js (gT [i, j]) :=
  ⟨_, pg_tup hc (pgs_cons (pg_name hN hi hx hfx) (pgs_cons (pg_name hN ‹_› hy hfy) pgs_nil)), fun v d σ H E H0 ss Q K S n h k => by
    unfold gT at h
    split at h
    · rename_i l
      obtain ⟨a, vs, rfl, _, ha, hl⟩ := n.of_tup
      obtain ⟨e1, q⟩ := h
      have el := hl.length
      obtain ⟨v1, v2, rfl⟩ : ∃ v1 v2, vs = [v1, v2] := by
        have e2 : vs.length = 2 := el.trans e1
        match vs, e2 with
        | [v1, v2], _ => exact ⟨v1, v2, rfl⟩
      obtain ⟨σ', a1, a2, a4, a3⟩ := stt_setN [i, j] S hl e1.symm
      refine ⟨a, [v1, v2], rfl, SqT.of ha, rfl, v1, [v2], rfl, v2, [], rfl, rfl, ?_⟩
      have := k σ' _ a1 a2 (fun no => a4 fun k hk => no.at k (hj k hk)) (by rw [a3]; exact wipe_fold js [i, j] hj _ _) q
      rw [a3] at this
      exact this
    · exact h.elim⟩
/-! ### what is walked -/
structure Src (P : Gl0) (g : G) (J : It) (l : List D) (z : Hp → (Addr → Prop) → Prop) : Prop where
  hz : ∀ (H H' : Hp) (R R' : Addr → Prop), (∀ a o, ¬ R a → H a = some o → NT o → H' a = some o ∧ ¬ R' a) → z H R → z H' R'
  go : ∀ (i : Nat) (H : Hp) (R : Addr → Prop), g.inv H → z H R → i < l.length → J.go i H
  yld : ∀ (i : Nat) (H : Hp) (R : Addr → Prop) (x : V) (H' : Hp) (d : D), g.inv H → z H R → (∀ a, R a → H a ≠ none) → l[i]? = some d → J.yld i H x H' → (∀ b o, H b = some o → H' b = some o) ∧ Den P g R H' x d
  stop : ∀ (i : Nat) (H : Hp) (R : Addr → Prop), g.inv H → z H R → i = l.length → J.stop i H
structure DI (X : Cx) (P : Gl0) (g : G) (tg iter : Expr) (ti : TL) : Prop where
  ex : ∃ wi : TI, PI X tg iter wi ∧ ∀ (σ : St) (H : Hp) (E : Ex) (H0 : Hp) (ss : SS) (Q : List D → Prop) (Qx : Err → SS → Prop) (R : It → Hp → Prop), Stt P g E H0 ss σ H → TX X P g E H0 Qx → ti ss Q Qx →
    (∀ J H1 l z, Stt P g E H0 ss σ H1 → Ext g.W H H1 → Src P g J l z → z H1 (Rg g E σ ss) → Q l → R J H1) → wi σ H R
theorem mvR {R R' : Addr → Prop} (m : ∀ a o, ¬ R a → H a = some o → NT o → H' a = some o ∧ ¬ R' a) : Mv g g R R' H H' := ⟨fun a o n q t => m a o n q t.nt, fun _ _ b => b⟩
theorem src_lst {K : PySem.W.Frag} {a : Addr} {vs : List V} {l : List D} : Src P g (Itl K a) l (fun H R => H a = some (.lst vs) ∧ ¬ R a ∧ DenL P g R H vs l) where
  hz := fun H H' R R' m ⟨h1, h2, h3⟩ => ⟨(m a _ h2 h1 NT.lst).1, (m a _ h2 h1 NT.lst).2, DenL.mv (mvR m) h3⟩
  go := fun i H R _ ⟨h1, h2, h3⟩ hi => ⟨vs, vs[i]'(by rw [h3.length]; exact hi), SqL.of h1, List.getElem?_eq_getElem _⟩
  yld := fun i H R x H' d _ ⟨h1, h2, h3⟩ _ hd hy => by
    obtain ⟨rfl, hy⟩ := hy
    obtain ⟨v, q1, q2⟩ := h3.get hd
    have := hy vs (SqL.of h1)
    rw [q1] at this
    cases this
    exact ⟨fun _ _ z => z, q2⟩
  stop := fun i H R _ ⟨h1, h2, h3⟩ e => ⟨vs, SqL.of h1, by rw [h3.length, e]; exact Nat.le_refl _⟩
theorem src_tup {K : PySem.W.Frag} {a : Addr} {vs : List V} {l : List D} : Src P g (Itt K a) l (fun H R => H a = some (.tup vs) ∧ ¬ R a ∧ DenL P g R H vs l) where
  hz := fun H H' R R' m ⟨h1, h2, h3⟩ => ⟨(m a _ h2 h1 NT.tup).1, (m a _ h2 h1 NT.tup).2, DenL.mv (mvR m) h3⟩
  go := fun i H R _ ⟨h1, h2, h3⟩ hi => ⟨vs, vs[i]'(by rw [h3.length]; exact hi), SqT.of h1, List.getElem?_eq_getElem _⟩
  yld := fun i H R x H' d _ ⟨h1, h2, h3⟩ _ hd hy => by
    obtain ⟨rfl, hy⟩ := hy
    obtain ⟨v, q1, q2⟩ := h3.get hd
    have := hy vs (SqT.of h1)
    rw [q1] at this
    cases this
    exact ⟨fun _ _ z => z, q2⟩
  stop := fun i H R _ ⟨h1, h2, h3⟩ e => ⟨vs, SqT.of h1, by rw [h3.length, e]; exact Nat.le_refl _⟩
def intsD (lo : Int) (n : Nat) : List D := (List.range n).map fun (i : Nat) => D.int (lo + (i : Int))
theorem ints_len (lo : Int) (n : Nat) : (intsD lo n).length = n := by unfold intsD; rw [List.length_map, List.length_range]
theorem ints_get {lo : Int} {n i : Nat} {d : D} (h : (intsD lo n)[i]? = some d) : i < n ∧ d = .int (lo + (i : Int)) := by
  unfold intsD at h
  rw [List.getElem?_map] at h
  obtain ⟨k, h1, h2⟩ := Option.map_eq_some_iff.mp h
  obtain ⟨h3, h4⟩ := List.getElem?_eq_some_iff.mp h1
  rw [List.getElem_range] at h4
  rw [List.length_range] at h3
  subst h4
  exact ⟨h3, h2.symm⟩
theorem src_rng {lo : Int} {n : Nat} : Src P g (Itr lo n) (intsD lo n) (fun _ _ => True) where
  hz := fun _ _ _ _ _ _ => trivial
  go := fun i H R _ _ hi => by rw [ints_len] at hi; exact hi
  yld := fun i H R x H' d _ _ _ hd hy => by
    obtain ⟨rfl, hy⟩ := hy
    obtain ⟨_, rfl⟩ := ints_get hd
    subst hy
    exact ⟨fun _ _ z => z, .int⟩
  stop := fun i H R _ _ e => by rw [ints_len] at e; exact Nat.le_of_eq e.symm
/-- a list or a tuple -/
def iSq (K : PySem.W.Frag) (tl : TE) : TI := fun σ H R => tl σ H fun x H1 => ∃ a, x = .ref a ∧ (((∃ xs, SqL K H1 a xs) ∧ R (Itl K a) H1) ∨ ((∃ xs, SqT K H1 a xs) ∧ R (Itt K a) H1))
theorem pi_sq {l : Expr} {tl : TE} (hl : PE X l tl) : PI X tg l (iSq X.K tl) := by
  refine ⟨fun pins s σ H R I h => ?_⟩
  refine thn (hl.run pins s σ H _ I h) fun v s1 ⟨x, H1, I1, r1, q1⟩ => ?_
  obtain ⟨a, e, q⟩ := q1
  subst e
  rcases q with ⟨⟨xs, hq⟩, q⟩ | ⟨⟨xs, hq⟩, q⟩
  · cases r1
    obtain ⟨its, rv, p, hz⟩ := I1.list hq
    refine wpAny_pyIter_list p.isList ?_
    refine ⟨s1.heap.objs.size, [s1.heap.objs.size], _, _, H1, rfl, I1.kept (t' := s1.toks) fun b o e => Heap.get?_push_of_some _ e, turn_list a _, ⟨_, Heap.get?_push_size _ rfl, rfl, rfl⟩, fun b hb => ?_, q⟩
    have e : b = s1.heap.objs.size := by simpa using hb
    subst e
    exact I1.fpOk (Nat.le_refl _) (I1.hok.fresh (Nat.le_refl _))
  · cases r1
    obtain ⟨its, rv, p, hz⟩ := I1.tuple hq
    refine wpAny_pyIter_tuple (show s1.heap.IsTuple a its.toArray from p) ?_
    refine ⟨s1.heap.objs.size, [s1.heap.objs.size], _, _, H1, rfl, I1.kept (t' := s1.toks) fun b o e => Heap.get?_push_of_some _ e, turn_tuple a _, ⟨_, Heap.get?_push_size _ rfl, rfl, rfl⟩, fun b hb => ?_, q⟩
    have e : b = s1.heap.objs.size := by simpa using hb
    subst e
    exact I1.fpOk (Nat.le_refl _) (I1.hok.fresh (Nat.le_refl _))
def seqOf (Q : List D → Prop) : D → Prop
  | .lst l => Q l
  | .tup l => Q l
  | _ => False
def vSeqI (ta : TD) : TL := fun ss Q Qx => ta ss (seqOf Q) Qx
theorem i_seq (h : DE X P g e ta) : DI X P g tg e (vSeqI ta) :=
  ⟨_, pi_sq h.pe, fun σ H E H0 ss Q Qx R S T hh k => upE.run S T hh fun v H1 d S1 e1 n q => by
    cases d with
    | lst l =>
      obtain ⟨a, vs, rfl, na, ha, hl⟩ := n.of_lst
      exact ⟨a, rfl, .inl ⟨⟨_, SqL.of ha⟩, k _ H1 l _ S1 e1 src_lst ⟨ha, na, hl⟩ q⟩⟩
    | tup l =>
      obtain ⟨a, vs, rfl, na, ha, hl⟩ := n.of_tup
      exact ⟨a, rfl, .inr ⟨⟨_, SqT.of ha⟩, k _ H1 l _ S1 e1 src_tup ⟨ha, na, hl⟩ q⟩⟩
    | _ => exact q.elim⟩
def vRng1 (ta : TD) : TL := fun ss Q Qx => ta ss (isIn fun n => (n < 1000000000000 ∧ -1000000000000 < n) ∧ Q (intsD 0 n.toNat)) Qx
theorem i_rng1 {p1 : Pos} (hg : Gl X "range") (hm : X.mg "range" = none) (ha : DE X P g a ta) (hs : starEach [a] X.env = [(false, eval a X.env)] := by rfl) : DI X P g tg (.Call (.Name "range" p1) [a] [] pos) (vRng1 ta) :=
  ⟨_, pi_range1 hg hm (pa_cons ha.pe pa_nil hs) hs, fun σ H E H0 ss Q Qx R S T hh k => upE.run S T hh fun v H1 d S1 e1 n q => by
    obtain ⟨i, rfl, q1, q2⟩ := q.ok
    cases n
    exact ⟨i, rfl, by omega, by omega, k _ H1 _ _ S1 e1 src_rng trivial q2⟩⟩
def vRng2 (ta tb : TD) : TL := fun ss Q Qx => ta ss (isIn fun m => tb ss (isIn fun n => (m < 1000000000000 ∧ -1000000000000 < m ∧ n < 1000000000000 ∧ -1000000000000 < n) ∧ Q (intsD m (n - m).toNat)) Qx) Qx
theorem i_rng2 {p1 : Pos} (hg : Gl X "range") (hm : X.mg "range" = none) (ha : DE X P g a ta) (hb : DE X P g b tb) (hs : starEach [a, b] X.env = [(false, eval a X.env), (false, eval b X.env)] := by rfl) (hs2 : starEach [b] X.env = [(false, eval b X.env)] := by rfl) : DI X P g tg (.Call (.Name "range" p1) [a, b] [] pos) (vRng2 ta tb) :=
  ⟨_, pi_range2 hg hm (pa_cons ha.pe (pa_cons hb.pe pa_nil hs2) (by rw [hs, hs2])) hs hs2, fun σ H E H0 ss Q Qx R S T hh k => upE.run S T hh fun v H1 d S1 e1 n q => by
    obtain ⟨i, rfl, q1⟩ := q.ok
    cases n
    refine upE.run S1 T q1 fun w H2 d2 S2 e2 n2 q2 => ?_
    obtain ⟨j, rfl, q3, q4⟩ := q2.ok
    cases n2
    exact ⟨i, j, rfl, by omega, k _ H2 _ _ S2 (e1.trans e2) src_rng trivial q4⟩⟩
/-! ### for -/
def vFor (ti : TL) (tg : TG') (tb : TSt) : TSt := fun N ss => ti ss (fun l => ∃ I : Nat → SS → Prop, I 0 ss ∧ (∀ i d ss', l[i]? = some d → I i ss' → tg d ss' (fun ss2 => tb { N with nx := I (i + 1), ct := I (i + 1), bk := N.nx } ss2)) ∧ ∀ ss', I l.length ss' → N.nx ss') N.ex
/-- framed besides -/
def Ex.add (E : Ex) (z : Hp → (Addr → Prop) → Prop) (hz : ∀ (H H' : Hp) (R R' : Addr → Prop), (∀ a o, ¬ R a → H a = some o → NT o → H' a = some o ∧ ¬ R' a) → z H R → z H' R') : Ex :=
  ⟨E.x, fun H R => E.z H R ∧ z H R, fun H H' R R' m ⟨h1, h2⟩ => ⟨E.hz H H' R R' m h1, hz H H' R R' m h2⟩⟩
theorem Stt.add {z : Hp → (Addr → Prop) → Prop} {hz} (S : Stt P g E H0 ss σ H) (h : z H (Rg g E σ ss)) : Stt P g (E.add z hz) H0 ss σ H := ⟨S.sg, ⟨S.pin, h⟩, S.grow, S.len, S.val, S.own, S.uniq⟩
theorem Stt.drop {z : Hp → (Addr → Prop) → Prop} {hz} (S : Stt P g (E.add z hz) H0 ss σ H) : Stt P g E H0 ss σ H := ⟨S.sg, S.pin.1, S.grow, S.len, S.val, S.own, S.uniq⟩
theorem Stt.pinned {z : Hp → (Addr → Prop) → Prop} {hz} (S : Stt P g (E.add z hz) H0 ss σ H) : z H (Rg g E σ ss) := S.pin.2
theorem TX.add {z : Hp → (Addr → Prop) → Prop} {hz} {Qx : Err → SS → Prop} (T : TX X P g E H0 Qx) : TX X P g (E.add z hz) H0 Qx := by
  rcases T with T | T
  · exact .inl T
  · exact .inr (T.imp fun c d σ H ⟨err, ss, S, h1, h2⟩ => ⟨err, ss, S.drop, h1, h2⟩)
theorem SPD.rt_add {z : Hp → (Addr → Prop) → Prop} {hz} {N N' : DEnds} (h : ∀ d, N.rt d → N'.rt d) {v : V} (r : (SPD P g (E.add z hz) H0 N).rt v H) : (SPD P g E H0 N').rt v H := by
  obtain ⟨d, σ, ss, S, n, q⟩ := r
  exact ⟨d, σ, ss, S.drop, n, h d q⟩
theorem s_for (hp : PassesOwn (model X.prog X.w) X.A X.env X.xe) (hc : X.calm = true) (hi : DI X P g tg iter tl) (hg : DG X P g tg js tgt) (hb : DSs X P g body ts) (hs : ∀ x, foldedSetIterable iter X.env x = pure x := by intro _; rfl) :
    DS X P g (.For tg iter body [] pos) (vFor tl tgt ts) := by
  obtain ⟨wi, i1, i2⟩ := hi.ex
  obtain ⟨gt, g1, g2⟩ := hg.ex
  refine DS.of (ps_for hp hc i1 g1 hb.pss hs) fun σ H E H0 ss N S T h => i2 σ H E H0 ss _ _ _ S T h fun J H1 l z S1 e1 src hz q => ?_
  obtain ⟨I, I0, It, Id⟩ := q
  refine ⟨fun i m σ H => m = l.length - i ∧ i ≤ l.length ∧ ∃ ss', Stt P g (E.add z src.hz) H0 ss' σ H ∧ I i ss', ⟨l.length, by simp, Nat.zero_le _, ss, S1.add hz, I0⟩, ?_⟩
  rintro i m σ2 H2 ⟨rfl, hi, ss2, S2, I2⟩
  have trk : ∀ a, Rg g E σ2 ss2 a → H2 a ≠ none := fun a r => by
    obtain ⟨o, q, _⟩ := S2.sg.trk a r
    rw [q]; exact fun z => by cases z
  by_cases hlt : i < l.length
  · refine .inr ⟨src.go i H2 _ S2.sg.inv S2.pinned hlt, fun σ' H' => ∃ ss', Stt P g (E.add z src.hz) H0 ss' σ' H' ∧ I (i + 1) ss', fun σ' H' ⟨ss', S', I'⟩ => ⟨l.length - (i + 1), by omega, rfl, hlt, ss', S', I'⟩, fun x H3 y => ?_⟩
    have hd : l[i]? = some l[i] := List.getElem?_eq_getElem hlt
    obtain ⟨k1, k2⟩ := src.yld i H2 _ x H3 _ S2.sg.inv S2.pinned trk hd y
    have S3 : Stt P g (E.add z src.hz) H0 ss2 σ2 H3 := S2.same k1
    refine g2 x l[i] σ2 H3 (E.add z src.hz) H0 ss2 _ _ S3 k2 (It i _ ss2 hd I2) fun σ4 ss4 S4 _ _ _ q4 => ?_
    exact upS.run (N := { N with nx := I (i + 1), ct := I (i + 1), bk := N.nx }) S4 T.add q4 (fun _ _ z => z) (fun σ' H' ⟨ss', S', h'⟩ => ⟨ss', S'.drop, h'⟩) (fun _ _ z => z) (fun v H' r => SPD.rt_add (fun _ z => z) r)
  · have e : i = l.length := by omega
    subst e
    exact .inl ⟨src.stop _ H2 _ S2.sg.inv S2.pinned rfl, ss2, S2.drop, Id ss2 I2⟩
/-! ### while -/
def vWhile (tc : TB) (tb : TSt) : TSt := fun N ss => ∃ I : Nat → SS → Prop, (∃ m, I m ss) ∧ ∀ m ss', I m ss' → tc ss' (fun b => match b with
  | true => tb { N with nx := fun s => ∃ m', m' < m ∧ I m' s, ct := fun s => ∃ m', m' < m ∧ I m' s, bk := N.nx } ss'
  | false => N.nx ss') N.ex
theorem s_while (hp : PassesOwn (model X.prog X.w) X.A X.env X.xe) (hc : DT X P g c tt) (hb : DSs X P g body ts) : DS X P g (.While c body [] pos) (vWhile tt ts) :=
  DS.of (ps_while hp hc.pt hb.pss) fun σ H E H0 ss N S T h => by
    obtain ⟨I, ⟨m0, h0⟩, turn⟩ := h
    refine ⟨fun m σ H => ∃ ss', Stt P g E H0 ss' σ H ∧ I m ss', ⟨m0, ss, S, h0⟩, ?_⟩
    rintro m σ2 H2 ⟨ss2, S2, I2⟩
    refine upT.run S2 T (turn m ss2 I2) fun b H3 S3 e3 q => ?_
    cases b with
    | true => exact iteT ⟨fun σ' H' => ∃ ss', Stt P g E H0 ss' σ' H' ∧ ∃ m', m' < m ∧ I m' ss', fun σ' H' ⟨ss', S', m', l, I'⟩ => ⟨m', l, ss', S', I'⟩, upS.run (N := { N with nx := fun s => ∃ m', m' < m ∧ I m' s, ct := fun s => ∃ m', m' < m ∧ I m' s, bk := N.nx }) S3 T q (fun _ _ z => z) (fun _ _ z => z) (fun _ _ z => z) (fun _ _ z => z)⟩
    | false => exact iteF ⟨ss2, S3, q⟩

/-! ### comprehensions -/
def wipeS (ss : SS) : List Nat → SS
  | [] => ss
  | v :: vs => (wipeS ss vs).set v .u
theorem Stt.wipe (S : Stt P g E H0 ss σ H) : ∀ js : List Nat, Stt P g E H0 (wipeS ss js) (L2.wipe σ js) H
  | [] => S
  | j :: js => (Stt.wipe S js).wipe1 j
theorem wipeS_get {ss : SS} {j : Nat} : ∀ {js : List Nat} {d : D}, (wipeS ss js)[j]? = some (.own d) → ss[j]? = some (.own d)
  | [], d, h => h
  | k :: js, d, h => by
    unfold wipeS at h
    rcases set_get h with ⟨_, z⟩ | ⟨_, h⟩
    · cases z
    · exact wipeS_get h
theorem rg_wipe (x : Addr) : ∀ {js : List Nat}, noOwn ss js → (Rg g E (L2.wipe σ js) (wipeS ss js) x ↔ Rg g E σ ss x)
  | [], _ => Iff.rfl
  | j :: js, h => by
    have h1 := rg_wipe x (js := js) h.2
    refine Iff.trans ⟨Rg_setV (fun d z => by cases z), rg_setV (fun d e => ?_) x⟩ h1
    exact h.at j List.mem_cons_self d (wipeS_get e)
theorem wipeS_noOwn (js : List Nat) : ∀ ks : List Nat, (∀ k ∈ ks, k ∈ js) → noOwn (wipeS ss js) ks
  | [], _ => trivial
  | k :: ks, h => by
    refine ⟨?_, wipeS_noOwn js ks fun x hx => h x (List.mem_cons_of_mem _ hx)⟩
    split
    · rename_i d e
      have go : ∀ js : List Nat, k ∈ js → (wipeS ss js)[k]? ≠ some (.own d) := by
        intro js
        induction js with
        | nil => intro h; cases h
        | cons j js ih =>
          intro h e
          unfold wipeS at e
          rcases set_get e with ⟨_, z⟩ | ⟨q, e⟩
          · cases z
          · rcases List.mem_cons.mp h with z | z
            · exact q z
            · exact ih z e
      exact go js (h k List.mem_cons_self) e
    · trivial
/-- left out besides: a list that is being made -/
def Ex.out (E : Ex) (D : Addr) : Ex := ⟨fun a => E.x a ∨ a = D, E.z, E.hz⟩
theorem rg_out {D : Addr} (x : Addr) : Rg g (E.out D) σ ss x ↔ (Rg g E σ ss x ∨ x = D) := by
  constructor
  · rintro (h | (h | h) | h)
    · exact .inl (.inl h)
    · exact .inl (.inr (.inl h))
    · exact .inr h
    · exact .inl (.inr (.inr h))
  · rintro ((h | h | h) | h)
    · exact .inl h
    · exact .inr (.inl (.inl h))
    · exact .inr (.inr h)
    · exact .inr (.inl (.inr h))
/-- a new list that is left out -/
theorem Stt.outN (S : Stt P g E H0 ss σ H) {D : Addr} {o : HO} (hD : H D = none) (no : NR o) : Stt P g (E.out D) H0 ss σ (upd H D o) := by
  have S' := S.new (p := D) (o := o) hD
  have at_ : ∀ a u, ¬ Rg g E σ ss a → H a = some u → NT u → upd H D o a = some u ∧ ¬ Rg g (E.out D) σ ss a := fun a u n q t => ⟨by rw [upd_ne (ne_of_none q hD)]; exact q, fun r => ((rg_out a).mp r).elim n (ne_of_none q hD)⟩
  have mv : Mv g g (Rg g E σ ss) (Rg g (E.out D) σ ss) H (upd H D o) := ⟨fun a u n q t => at_ a u n q t.nt, fun _ _ b => b⟩
  refine ⟨⟨S'.sg.tabs, S'.sg.inv, fun a r => ((rg_out a).mp r).elim (fun r => S'.sg.trk a r) fun z => ⟨o, by rw [z, upd_same], no⟩, g.hz _ _ _ _ at_ S.sg.pin⟩, E.hz _ _ _ _ at_ S.pin, S'.grow, S.len, fun j d' h => ?_, fun j d' h => ?_, S.uniq⟩
  · obtain ⟨w, h1, h2⟩ := S.val j d' h
    exact ⟨w, h1, Den.mv mv h2⟩
  · obtain ⟨p', h1, h2, h3, h4, h5⟩ := S.own j d' h
    refine ⟨p', h1, h2, h3, fun z => z.elim h4 fun e => ?_, h5.mv mv fun u z _ => by rw [upd_ne (ne_of_none z hD)]; exact z⟩
    obtain ⟨u, q, _⟩ := h5.there
    rw [e, hD] at q; cases q
/-- what is left out changes -/
theorem Stt.outC {D' : Addr} (S : Stt P g E H0 ss σ H) (hE : E.x D') {xs : List V} {o : HO} (hD : H D' = some (.lst xs)) (no : NR o) (h0 : H0 D' = none) (nW : ¬ g.W D') (nO : ¬ ownA σ ss D') : Stt P g E H0 ss σ (upd H D' o) := by
  have inR : Rg g E σ ss D' := .inr (.inl hE)
  have at_ : ∀ a u, ¬ Rg g E σ ss a → H a = some u → NT u → upd H D' o a = some u ∧ ¬ Rg g E σ ss a := fun a u n q t => ⟨by rw [upd_ne (fun z => n (by rw [z]; exact inR))]; exact q, n⟩
  have mv : Mv g g (Rg g E σ ss) (Rg g E σ ss) H (upd H D' o) := ⟨fun a u n q t => at_ a u n q t.nt, fun _ _ b => b⟩
  refine ⟨⟨fun q hq => ?_, g.hinv _ _ (fun a u w q => by rw [upd_ne (fun z => nW (by rw [← z]; exact w))]; exact q) S.sg.inv, fun a r => ?_, g.hz _ _ _ _ at_ S.sg.pin⟩, E.hz _ _ _ _ at_ S.pin, S.grow.mut h0, S.len, fun j d' h => ?_, fun j d' h => ?_, S.uniq⟩
  · obtain ⟨ps, q1, q2, q3⟩ := S.sg.tabs q hq
    refine ⟨ps, by rw [upd_ne (fun z => by rw [z, hD] at q1; cases q1)]; exact q1, q2, fun pos cv hc => ?_⟩
    obtain ⟨c', e1, e2⟩ := q3 pos cv hc
    exact ⟨c', e1, by rw [upd_ne (fun z => by rw [z, hD] at e2; unfold CodeO at e2; cases e2)]; exact e2⟩
  · by_cases z : a = D'
    · exact ⟨o, by rw [z, upd_same], no⟩
    · obtain ⟨u, q, n⟩ := S.sg.trk a r
      exact ⟨u, by rw [upd_ne z]; exact q, n⟩
  · obtain ⟨w, h1, h2⟩ := S.val j d' h
    exact ⟨w, h1, Den.mv mv h2⟩
  · obtain ⟨p', h1, h2, h3, h4, h5⟩ := S.own j d' h
    exact ⟨p', h1, h2, h3, h4, h5.mv mv fun u z _ => by rw [upd_ne (fun e => nO ⟨j, d', h, by rw [h1, e]⟩)]; exact z⟩
theorem Stt.outE (S : Stt P g (E.out D') H0 ss σ H) : Stt P g E H0 ss σ H := by
  have sub : ∀ a, Rg g E σ ss a → Rg g (E.out D') σ ss a := fun a r => (rg_out a).mpr (.inl r)
  refine ⟨S.sg.sub sub, E.hz _ _ _ _ (fun a o n q t => ⟨q, fun r => n (sub a r)⟩) S.pin, S.grow, S.len, fun j d' h => ?_, fun j d' h => ?_, S.uniq⟩
  · obtain ⟨w, h1, h2⟩ := S.val j d' h
    exact ⟨w, h1, Den.mv (Mv.sub sub) h2⟩
  · obtain ⟨p', h1, h2, h3, h4, h5⟩ := S.own j d' h
    exact ⟨p', h1, h2, h3, fun z => h4 (.inl z), h5.mv (Mv.sub sub) fun u z _ => z⟩
abbrev noX : Err → SS → Prop := fun _ _ => False
theorem TX.no {X : Cx} : TX X P g E H0 noX := .inl fun _ _ z => z
structure DTs (X : Cx) (P : Gl0) (g : G) (ifs : List Expr) (t : TB) : Prop where
  ex : ∃ tt : TT, PTs X ifs tt ∧ ∀ (σ : St) (H : Hp) (E : Ex) (H0 : Hp) (ss : SS) (Q : Bool → Prop) (Qx : Err → SS → Prop) (K : Bool → Hp → Prop), Stt P g E H0 ss σ H → TX X P g E H0 Qx → t ss Q Qx → (∀ b H', Stt P g E H0 ss σ H' → Ext g.W H H' → Q b → K b H') → tt σ H K
def vYes : TB := fun _ Q _ => Q true
theorem ts_nil : DTs X P g [] vYes := ⟨_, pts_nil, fun σ H E H0 ss Q Qx K S T h k => k true H S (Ext.refl _ _) h⟩
theorem ts_one (h : DT X P g c tt) : DTs X P g [c] tt := ⟨_, pts_one h.pt, fun σ H E H0 ss Q Qx K S T hh k => upT.run S T hh k⟩
/-- I: what holds of the list made so far -/
def vLc (js : List Nat) (ti : TL) (tg : TG') (tt : TB) (te : TD) : TL := fun ss Q Qx => noOwn ss js ∧ ti ss (fun l => l.length ≤ 1000000 ∧ ∃ I : Nat → List D → Prop, I 0 [] ∧
  (∀ i d acc, l[i]? = some d → I i acc → tg d (wipeS ss js) (fun ss' => tt ss' (fun b => match b with | true => te ss' (fun v => I (i + 1) (acc ++ [v])) noX | false => I (i + 1) acc) noX)) ∧ ∀ acc, I l.length acc → Q acc) Qx
theorem lc_run {wi : TI} {gt : TG} {tt' : TT} {tz : TE} {js : List Nat} {σ : St} {Q : List D → Prop} {Qx : Err → SS → Prop} {K : VK}
    (i2 : ∀ (σ : St) (H : Hp) (E : Ex) (H0 : Hp) (ss : SS) (Q : List D → Prop) (Qx : Err → SS → Prop) (R : It → Hp → Prop), Stt P g E H0 ss σ H → TX X P g E H0 Qx → tl ss Q Qx →
      (∀ J H1 l z, Stt P g E H0 ss σ H1 → Ext g.W H H1 → Src P g J l z → z H1 (Rg g E σ ss) → Q l → R J H1) → wi σ H R)
    (g2 : ∀ (v : V) (d : D) (σ : St) (H : Hp) (E : Ex) (H0 : Hp) (ss : SS) (Q : SS → Prop) (K : St → Hp → Prop), Stt P g E H0 ss σ H → Den P g (Rg g E σ ss) H v d → tgt d ss Q →
      (∀ σ' ss', Stt P g E H0 ss' σ' H → (∀ x, Rg g E σ' ss' x → Rg g E σ ss x) → (noOwn ss js → ∀ x, Rg g E σ ss x → Rg g E σ' ss' x) → L2.wipe σ' js = L2.wipe σ js → Q ss' → K σ' H) → gt v σ H K)
    (t2 : ∀ (σ : St) (H : Hp) (E : Ex) (H0 : Hp) (ss : SS) (Q : Bool → Prop) (K : Bool → Hp → Prop), Stt P g E H0 ss σ H → tt ss Q noX → (∀ b H', Stt P g E H0 ss σ H' → Ext g.W H H' → Q b → K b H') → tt' σ H K)
    (e2 : ∀ (σ : St) (H : Hp) (E : Ex) (H0 : Hp) (ss : SS) (Q : D → Prop) (K : VK), Stt P g E H0 ss σ H → te ss Q noX → (∀ v H' d, Stt P g E H0 ss σ H' → Ext g.W H H' → Den P g (Rg g E σ ss) H' v d → Q d → K v H') → tz σ H K)
    (S : Stt P g E H0 ss σ H) (T : TX X P g E H0 Qx) (h : vLc js tl tgt tt te ss Q Qx)
    (k : ∀ H1 p vs l, Stt P g E H0 ss σ H1 → Ext g.W H H1 → H p = none → ¬ Rg g E σ ss p → H1 p = some (.lst vs) → DenL P g (fun a => Rg g E σ ss a ∨ a = p) H1 vs l → Q l → K (.ref p) H1) : tLc wi gt tt' tz js σ H K := by
  obtain ⟨no, h⟩ := h
  refine i2 σ H E H0 ss _ _ _ S T h fun J H1 l z S1 e1 src hz q => ?_
  obtain ⟨hlen, I, I0, It, Id⟩ := q
  intro D hD
  have hD0 : H D = none := e1.gone D hD
  have fD : ¬ Rg g E σ ss D := S1.fresh hD
  have nW : ¬ g.W D := fun w => fD (Rg.W w)
  have nO : ¬ ownA σ ss D := fun w => fD (.inr (.inr w))
  -- the frame: the source
  let E1 : Ex := (E.out D).add z src.hz
  have S2 : Stt P g E1 H0 ss σ (upd H1 D (.lst [])) := (S1.outN hD NR.lst).add (src.hz _ _ _ _ (fun a u n q t => ⟨by rw [upd_ne (ne_of_none q hD)]; exact q, fun r => ((rg_out a).mp r).elim n (ne_of_none q hD)⟩) hz)
  refine ⟨fun i m H2 => m = l.length - i ∧ i ≤ l.length ∧ ∃ vs acc, H2 D = some (.lst vs) ∧ DenL P g (Rg g E1 σ ss) H2 vs acc ∧ acc.length ≤ i ∧ I i acc ∧ Stt P g E1 H0 ss σ H2 ∧ Ext g.W H1 H2, ⟨l.length, by simp, Nat.zero_le _, [], [], upd_same, .nil, Nat.le_refl _, I0, S2, Ext.new hD⟩, ?_⟩
  rintro i m H2 ⟨rfl, hi, vs, acc, hvs, hden, hacc, hI, S3, e3⟩
  have trk : ∀ a, Rg g E1 σ ss a → H2 a ≠ none := fun a r => by
    obtain ⟨o, q, _⟩ := S3.sg.trk a r
    rw [q]; exact fun z => by cases z
  by_cases hlt : i < l.length
  · refine .inr ⟨src.go i H2 _ S3.sg.inv S3.pinned hlt, fun H' => ∃ vs acc, H' D = some (.lst vs) ∧ DenL P g (Rg g E1 σ ss) H' vs acc ∧ acc.length ≤ i + 1 ∧ I (i + 1) acc ∧ Stt P g E1 H0 ss σ H' ∧ Ext g.W H1 H', fun H' q => ⟨l.length - (i + 1), by omega, rfl, hlt, q⟩, fun x H3 y => ?_⟩
    have hd : l[i]? = some l[i] := List.getElem?_eq_getElem hlt
    obtain ⟨k1, k2⟩ := src.yld i H2 _ x H3 _ S3.sg.inv S3.pinned trk hd y
    have S4 : Stt P g E1 H0 ss σ H3 := S3.same k1
    have SW := S4.wipe js
    have rw1 : ∀ a, Rg g E1 (L2.wipe σ js) (wipeS ss js) a ↔ Rg g E1 σ ss a := fun a => rg_wipe a no
    have x2 : Den P g (Rg g E1 (L2.wipe σ js) (wipeS ss js)) H3 x l[i] := Den.mv (Mv.sub fun a r => (rw1 a).mp r) k2
    refine g2 x l[i] _ H3 E1 H0 _ _ _ SW x2 (It i _ acc hd hI) fun σ5 ss5 S5 r5 r5' w5 q5 => ?_
    have ww : L2.wipe (L2.wipe σ js) js = L2.wipe σ js := by
      have go : ∀ ks : List Nat, (∀ k ∈ ks, k ∈ js) → L2.wipe (L2.wipe σ ks) js = L2.wipe σ js := by
        intro ks
        induction ks with
        | nil => intro _; rfl
        | cons k ks ih =>
          intro hk
          show L2.wipe ((L2.wipe σ ks).set k none) js = _
          rw [wipe_set _ _ _ _ (hk k List.mem_cons_self), ih fun k h => hk k (List.mem_cons_of_mem _ h)]
      exact go js fun _ h => h
    refine ⟨w5.trans ww, t2 σ5 H3 E1 H0 ss5 _ _ S5 q5 fun b H4 S6 e6 q6 => ?_⟩
    have D4 : H4 D = some (.lst vs) := e6.keep D _ (k1 D _ hvs) NT.lst nW
    have R5 : ∀ a, Rg g E1 σ5 ss5 a → Rg g E1 σ ss a := fun a r => (rw1 a).mp (r5 a r)
    have R5' : ∀ a, Rg g E1 σ ss a → Rg g E1 σ5 ss5 a := fun a r => r5' (wipeS_noOwn js js fun _ h => h) a ((rw1 a).mpr r)
    cases b with
    | true =>
      refine iteT (e2 σ5 H4 E1 H0 ss5 _ _ S6 q6 fun v H5 d S7 e7 n7 q7 => ?_)
      have D5 : H5 D = some (.lst vs) := e7.keep D _ D4 NT.lst nW
      have e25 : Ext g.W H2 H5 := (Ext.ofSame k1).trans (e6.trans e7)
      -- the state with the outer slots, at H5
      have S8 : Stt P g E1 H0 ss σ H5 := S3.back S7 e25
      have hden5 : DenL P g (Rg g E1 σ ss) H5 vs acc := denL_W e25 hden
      have n8 : Den P g (Rg g E1 σ ss) H5 v d := Den.mv (Mv.sub R5') n7
      have inR : Rg g E1 σ ss D := .inr (.inl (.inr rfl))
      have mv : Mv g g (Rg g E1 σ ss) (Rg g E1 σ ss) H5 (upd H5 D (.lst (vs ++ [v]))) := ⟨fun a u n q t => ⟨by rw [upd_ne (fun z => n (by rw [z]; exact inR))]; exact q, n⟩, fun _ _ b => b⟩
      exact ⟨vs, D5, by rw [hden.length]; exact Nat.lt_of_lt_of_le (show acc.length < 1000001 by omega) (by decide), vs ++ [v], acc ++ [d], upd_same, (DenL.mv mv hden5).append (.cons (Den.mv mv n8) .nil), by rw [List.length_append]; simp; omega, q7, S8.outC (.inr rfl) D5 NR.lst (S1.fresh0 hD) nW nO, (e3.trans e25).mut hD⟩
    | false =>
      have e24 : Ext g.W H2 H4 := (Ext.ofSame k1).trans e6
      exact iteF ⟨vs, acc, D4, denL_W e24 hden, by omega, q6, S3.back S6 e24, e3.trans e24⟩
  · have ei : i = l.length := by omega
    subst ei
    refine .inl ⟨src.stop _ H2 _ S3.sg.inv S3.pinned rfl, k H2 D vs acc S3.drop.outE (e1.trans e3) hD0 fD hvs (DenL.mv (Mv.sub fun a r => (rg_out a).mpr r) hden) (Id acc hI)⟩
end
end DL

set_option maxRecDepth 100000
set_option maxHeartbeats 4000000
namespace DL
open PySem L2 LamX NdefX

section
variable {X : Cx} {P : Gl0} {g : G} {a b c e tg iter elt : Expr} {es ifs : List Expr} {ta tb tc te : TD} {tt uu : TB} {tl : TL} {ts us : TSt} {pos : Pos} {st : Stmt} {rest body : List Stmt} {js : List Nat} {tgt : TG'}
variable {E E' : Ex} {H0 H H1 H' : Hp} {ss ss' : SS} {σ σ' : St}

/-! ### comprehensions -/
def upG (P : Gl0) (g : G) (js : List Nat) (t : TG') : TG := fun v σ H K => ∃ d E H0 ss Q, Stt P g E H0 ss σ H ∧ Den P g (Rg g E σ ss) H v d ∧ t d ss Q ∧
  ∀ σ' ss', Stt P g E H0 ss' σ' H → (∀ x, Rg g E σ' ss' x → Rg g E σ ss x) → (noOwn ss js → ∀ x, Rg g E σ ss x → Rg g E σ' ss' x) → wipe σ' js = wipe σ js → Q ss' → K σ' H
theorem DG.pg (h : DG X P g tg js tgt) : PG X tg (upG P g js tgt) := by
  obtain ⟨gt, g1, g2⟩ := h.ex
  exact ⟨fun pins s σ H v u K I r ⟨d, E, H0, ss, Q, S, n, ht, k⟩ => g1.run pins s σ H v u K I r (g2 v d σ H E H0 ss Q K S n ht k)⟩
def upE0 (P : Gl0) (g : G) (t : TD) : TE := fun σ H K => ∃ E H0 ss Q, Stt P g E H0 ss σ H ∧ t ss Q noX ∧ ∀ v H', EPD P g E H0 ss σ H Q v H' → K v H'
theorem DE.pe0 (h : DE X P g e ta) : PE X e (upE0 P g ta) := ⟨fun pins s σ H K I ⟨E, H0, ss, Q, S, ht, k⟩ => thn (h.run pins s σ H E H0 ss Q noX I S .no ht) fun u s' ⟨v, H', I', r, q⟩ => ⟨v, H', I', r, k v H' q⟩⟩
def upT0 (P : Gl0) (g : G) (t : TB) : TT := fun σ H K => ∃ E H0 ss Q, Stt P g E H0 ss σ H ∧ t ss Q noX ∧ ∀ b H', Stt P g E H0 ss σ H' → Ext g.W H H' → Q b → K b H'
theorem DTs.pts0 (h : DTs X P g ifs tt) : PTs X ifs (upT0 P g tt) := by
  obtain ⟨t, h1, h2⟩ := h.ex
  exact ⟨fun pins s σ H K I ⟨E, H0, ss, Q, S, ht, k⟩ => h1.run pins s σ H K I (h2 σ H E H0 ss Q noX K S .no ht k)⟩
def hid (H : Hp) (p : Addr) : Hp := fun a => if a = p then none else H a
theorem hid_ne {H : Hp} {p a : Addr} (h : a ≠ p) : hid H p a = H a := if_neg h
theorem hid_same {H : Hp} {p : Addr} : hid H p p = none := if_pos rfl
theorem upd_hid {H : Hp} {p : Addr} {o : HO} (h : H p = some o) : upd (hid H p) p o = H := by
  funext a
  by_cases e : a = p
  · rw [e, upd_same, h]
  · rw [upd_ne e, hid_ne e]
/-- what holds of a new list's expression -/
def LawN (P : Gl0) (g : G) (X : Cx) (te : TE) (t : TL) : Prop := ∀ (σ : St) (H : Hp) (E : Ex) (H0 : Hp) (ss : SS) (Q : List D → Prop) (Qx : Err → SS → Prop) (K : VK), Stt P g E H0 ss σ H → TX X P g E H0 Qx → t ss Q Qx →
    (∀ H1 p vs l, Stt P g E H0 ss σ H1 → Ext g.W H H1 → H1 p = none → DenL P g (Rg g E σ ss) H1 vs l → Q l → K (.ref p) (upd H1 p (.lst vs))) → te σ H K
theorem lc_law {wi : TI} {js : List Nat} (i2 : ∀ (σ : St) (H : Hp) (E : Ex) (H0 : Hp) (ss : SS) (Q : List D → Prop) (Qx : Err → SS → Prop) (R : It → Hp → Prop), Stt P g E H0 ss σ H → TX X P g E H0 Qx → tl ss Q Qx →
    (∀ J H1 l z, Stt P g E H0 ss σ H1 → Ext g.W H H1 → Src P g J l z → z H1 (Rg g E σ ss) → Q l → R J H1) → wi σ H R) : LawN P g X (tLc wi (upG P g js tgt) (upT0 P g tt) (upE0 P g te) js) (vLc js tl tgt tt te) := by
  intro σ H E H0 ss Q Qx K S T h k
  refine lc_run (js := js) (gt := upG P g (js) tgt) (tt' := upT0 P g tt) (tz := upE0 P g te) (tgt := tgt) (tt := tt) (te := te) i2 (fun v d σ H E H0 ss Q K S n ht k => ⟨d, E, H0, ss, Q, S, n, ht, k⟩) (fun σ H E H0 ss Q K S ht k => ⟨E, H0, ss, Q, S, ht, k⟩) (fun σ H E H0 ss Q K S ht k => ⟨E, H0, ss, Q, S, ht, fun v H' ⟨d, a, b, c, q⟩ => k v H' d a b c q⟩) S T h
    fun H1 p vs l S1 e1 hp fp hv dl q => ?_
  have e1' : Ext g.W H (hid H1 p) := ⟨fun a o h n w => by rw [hid_ne (ne_of_none h hp)]; exact e1.keep a o h n w, fun a h => by
    by_cases z : a = p
    · rw [z]; exact hp
    · rw [hid_ne z] at h; exact e1.gone a h⟩
  have sg : SG P g (Rg g E σ ss) (hid H1 p) := ⟨fun q hq => by
      obtain ⟨ps, q1, q2, q3⟩ := S1.sg.tabs q hq
      refine ⟨ps, by rw [hid_ne (fun z => by rw [z, hv] at q1; cases q1)]; exact q1, q2, fun pos cv hc => ?_⟩
      obtain ⟨c', e1, e2⟩ := q3 pos cv hc
      exact ⟨c', e1, by rw [hid_ne (fun z => by rw [z, hv] at e2; unfold CodeO at e2; cases e2)]; exact e2⟩,
    g.hinv _ _ (fun a o w h => by rw [hid_ne (fun z => fp (by rw [← z]; exact Rg.W w))]; exact h) S1.sg.inv,
    fun a r => by
      obtain ⟨o, q, n⟩ := S1.sg.trk a r
      exact ⟨o, by rw [hid_ne (fun z => fp (by rw [← z]; exact r))]; exact q, n⟩,
    pinW (fun a w => Rg.W w) e1' S.sg.pin⟩
  have := k (hid H1 p) p vs l (S.ext e1' sg) e1' hid_same (DenL.mv ⟨fun a o n h t => ⟨by rw [hid_ne (fun z => n (.inr z))]; exact h, fun r => n (.inl r)⟩, fun _ _ b => b⟩ dl) q
  rw [upd_hid hv] at this
  exact this
theorem n_lc {scope : Scope} {own : List (Str × Nat)} (hc : X.calm = true) (hN : X.N.Nodup) (hi : DI X P g tg iter tl) (ok : BlkOk X.N X.env.scope scope own)
    (hg : ∀ (s : Shared) (H : Hp) (C : Addr) (cl : List (Str × Addr)) (fp : List Addr), DG (X.blk s H scope (compEnvC scope cl C X.env) fp) P g tg (own.map (·.2)) tgt)
    (ht : ∀ (s : Shared) (H : Hp) (C : Addr) (cl : List (Str × Addr)) (fp : List Addr), DTs (X.blk s H scope (compEnvC scope cl C X.env) fp) P g ifs tt)
    (he : ∀ (s : Shared) (H : Hp) (C : Addr) (cl : List (Str × Addr)) (fp : List Addr), DE (X.blk s H scope (compEnvC scope cl C X.env) fp) P g elt te) (hs : ∀ x, foldedSetIterable iter X.env x = pure x := by intro _; rfl) :
    DN X P g (.ListComp elt [⟨tg, iter, ifs, 0⟩] scope pos) (vLc (own.map (·.2)) tl tgt tt te) := by
  obtain ⟨wi, i1, i2⟩ := hi.ex
  exact ⟨_, pe_lc hc hN i1 ok (fun s H C cl fp => (hg s H C cl fp).pg) (fun s H C cl fp => (ht s H C cl fp).pts0) (fun s H C cl fp => (he s H C cl fp).pe0) hs, lc_law i2⟩
/-- a name that is set to a new list, in one step -/
structure DNA (X : Cx) (P : Gl0) (g : G) (st : Stmt) (i : Nat) (t : TL) : Prop where
  ex : ∃ te : TE, PS X st (tAsg te (gName i)) ∧ LawN P g X te t
theorem na_lc (i : Nat) {y : Str} {py spos : Pos} {scope : Scope} {own : List (Str × Nat)} (hc : X.calm = true) (hN : X.N.Nodup) (hi : DI X P g tg iter tl) (ok : BlkOk X.N X.env.scope scope own)
    (hg : ∀ (s : Shared) (H : Hp) (C : Addr) (cl : List (Str × Addr)) (fp : List Addr), DG (X.blk s H scope (compEnvC scope cl C X.env) fp) P g tg (own.map (·.2)) tgt)
    (ht : ∀ (s : Shared) (H : Hp) (C : Addr) (cl : List (Str × Addr)) (fp : List Addr), DTs (X.blk s H scope (compEnvC scope cl C X.env) fp) P g ifs tt)
    (he : ∀ (s : Shared) (H : Hp) (C : Addr) (cl : List (Str × Addr)) (fp : List Addr), DE (X.blk s H scope (compEnvC scope cl C X.env) fp) P g elt te) (hy : X.N[i]? = some y := by rfl) (hyl : X.env.scope.names.lookup y = some .local := by rfl) (hsw : swapsWith (.ListComp elt [⟨tg, iter, ifs, 0⟩] scope pos) (some (.Name y py)) spos.line X.env = pure true := by rfl) (hs : ∀ x, foldedSetIterable iter X.env x = pure x := by intro _; rfl) :
    DNA X P g (.Assign [.Name y py] (.ListComp elt [⟨tg, iter, ifs, 0⟩] scope pos) spos) i (vLc (own.map (·.2)) tl tgt tt te) := by
  obtain ⟨wi, i1, i2⟩ := hi.ex
  exact ⟨_, ps_setLc hc hN hy hyl hsw i1 ok (fun s H C cl fp => (hg s H C cl fp).pg) (fun s H C cl fp => (ht s H C cl fp).pts0) (fun s H C cl fp => (he s H C cl fp).pe0) hs, lc_law i2⟩
theorem s_setA {i : Nat} (h : DNA X P g st i tl) : DS X P g st (vSet i (vNew tl)) := by
  obtain ⟨te, h1, h2⟩ := h.ex
  exact DS.of h1 fun σ H E H0 ss N S T h => h2 σ H E H0 ss _ _ _ S T h fun H1 p vs l S1 e1 hp n q => ⟨_, (S1.new hp).set i (.lst (S1.fresh hp) upd_same (denL_W (Ext.new hp) n)), q⟩
theorem s_ownA {i : Nat} (h : DNA X P g st i tl) : DS X P g st (vOwn i tl) := by
  obtain ⟨te, h1, h2⟩ := h.ex
  exact DS.of h1 fun σ H E H0 ss N S T h => h2 σ H E H0 ss _ _ _ S T h fun H1 p vs l S1 e1 hp n q => ⟨_, S1.setOwn i hp NR.lst fun R' H' m z => .lst z (DenL.mv m n), q⟩
end
end DL

set_option maxRecDepth 100000
set_option maxHeartbeats 4000000
namespace DL
open PySem PySem.Spec PyProof.Rows L2 LamX NdefX

section
variable {X : Cx} {P : Gl0} {g : G} {a b c e tg iter elt : Expr} {es ifs : List Expr} {ta tb tc te : TD} {tt uu : TB} {tl : TL} {ts us : TSt} {pos : Pos} {st : Stmt} {rest body : List Stmt} {js : List Nat} {tgt : TG'}
variable {E E' : Ex} {H0 H H1 H' : Hp} {ss ss' : SS} {σ σ' : St}

/-! ### a contract within no repr -/
structure FnG (Pr : Program) (w : World) (K : PySem.W.Frag) (mg : Str → Option Value) (base : Heap) (CX : CXT) (k : Nat) (f : Addr) (fd : FuncData) (ps : List Str) (sp : Sp) : Prop where
  len : ∀ vs H Q E, sp vs H Q E → vs.length = ps.length
  run : ∀ (A : Around) (outer : List Env) (s : Shared) (H : Hp) (args : Args) (us : List Value) (vs : List V) (Q : VK) (E : XK), Room k A → A.guards = some [] → Env0 Pr w K mg base A outer s H → BindsTo s fd args (ps.zip us) → Vals vs us → sp vs H Q E →
    codeAny (model Pr w) A (.call (.ref f) args) (CR CX outer Pr w H s Q E) s
theorem FnG.mono {Pr : Program} {w : World} {K : PySem.W.Frag} {mg : Str → Option Value} {base : Heap} {CX : CXT} {j k : Nat} {f : Addr} {fd : FuncData} {ps : List Str} {sp : Sp} (F : FnG Pr w K mg base CX j f fd ps sp) (h : j ≤ k) : FnG Pr w K mg base CX k f fd ps sp :=
  ⟨F.len, fun A outer s H args us vs Q E hr => F.run A outer s H args us vs Q E (hr.mono h)⟩
theorem deeper_guards {A : Around} {env : Env} (h : A.guards = some []) : (A.deeper env).guards = some [] := by
  first | exact h | (simpa [Around.deeper] using h)
/-- by the body -/
theorem fnG_of {CX : CXT} {Pr : Program} {w : World} {K : PySem.W.Frag} {mg : Str → Option Value} {base : Heap} {k : Nat} {f : Addr} {fd : FuncData} {x qual : Str} {N ps : List Str} {sp : Sp} (F : L2.Fun K x qual st f fd) (S : FnScope N ps (defScope st)) (len : ∀ vs H Q E, sp vs H Q E → vs.length = ps.length)
    (hbody : ∀ (cdv : Value) (A : Around) (outer : List Env) (s : Shared) (H : Hp) (vs : List V) (Q : VK) (E : XK), Room k (A.deeper (envOfC qual (defScope st) s.heap.objs.size f cdv)) → (A.deeper (envOfC qual (defScope st) s.heap.objs.size f cdv)).guards = some [] → sp vs H Q E →
      ∃ t, PSs (cxOf CX Pr w K mg base N qual (defScope st) f cdv A outer s H E) (defBody st) t ∧ t { nx := fun _ H' => Q .non H', rt := Q } (L2.start N vs) H) : FnG Pr w K mg base CX (k + 1) f fd ps sp := by
  obtain ⟨oc, od, kV, doc, pm, an, cdv, ct, osl, rfl, lk, hcd⟩ := F.ex
  refine ⟨len, fun A outer s H args us vs Q E hr hgd e0 hb r hsp => ?_⟩
  have kp : ∀ b o, base.get? b = some o → s.heap.get? b = some o := fun b o e => (e0.bs b o e).1
  have KX : K.In s.heap := e0.mod.kin.keeps kp
  refine codeAny_call_function hr.depth (KX _ _ lk) rfl S.co S.gen rfl (PySem.W.codeRec_of KX hcd) (hb _ _ _ _ ?_)
  refine wpAny_newFunctionEnv_cells S.kind (fun y hy => ?_) fun env he s1 x => ?_
  · have hp := (List.of_mem_zip hy).1
    rcases S.par y.1 hp with q | q
    · exact .inl q
    · exact .inr ⟨q, PySem.W.cellsFrom_some _ _ _ (.inl q)⟩
  · subst he
    refine ⟨(e0.mod.nolimit.keeps kp).keeps x.toInCall.keep, codeAny_func ?_⟩
    obtain ⟨t, ht, hq⟩ := hbody cdv A outer s H vs Q E (hr.deeper _) (deeper_guards hgd) hsp
    have hI := inv_start (CX := CX) (E := E) S hr.hd e0 (len _ _ _ _ hsp) r x
    refine wpAny_mono (ht.run [] s1 (L2.start N vs) H _ hI hq) (fun fl s' hs => ?_) fun e s' hs => hs
    cases fl with
    | ret u =>
      obtain ⟨v, σ', H', J, rv, q⟩ := hs
      exact ⟨v, H', J.os, J.bare, J.base, J.hok, rv, q⟩
    | next =>
      obtain ⟨σ', H', J, q⟩ := hs
      exact ⟨.non, H', J.os, J.bare, J.base, J.hok, rfl, q⟩
    | brk => obtain ⟨_, _, _, q⟩ := hs; exact q.elim
    | cont => obtain ⟨_, _, _, q⟩ := hs; exact q.elim
/-- at a call -/
theorem run_fnG {CX : CXT} {k : Nat} {f : Addr} {fd : FuncData} {ps : List Str} {sp : Sp} {XE : XK} {pins : List (Addr × Obj)} {s : Shared} {Q : VK} {us : List Value} {vs : List V} (F : FnG X.prog X.w X.K X.mg X.base CX k f fd ps sp) (hr : Room k X.A) (hgd : X.A.guards = some []) (hb : Binds X.K fd ps [])
    (hx : PassesAt CX X σ XE) (I : Inv X pins σ H s) (r : Vals vs us) (h : sp vs H Q XE) : wpAny (model X.prog X.w) X.A (call (.ref f) us) (EP X pins σ Q) X.xe s := by
  have hl : (us ++ []).length = ps.length := by rw [List.append_nil, ← r.length]; exact F.len _ _ _ _ h
  have b := hb s us I.kIn hl
  rw [List.append_nil] at b
  refine wpAny_call (codeAny_mono (F.run X.A X.stack s H ⟨us, []⟩ us vs Q XE hr hgd I.env0 b r h) fun r s' hq => ?_)
  cases r with
  | error e => exact hx pins H s e s' I hq
  | ok fl =>
    cases fl with
    | ret u => exact I.after hq
    | next => exact False.elim hq
    | brk => exact False.elim hq
    | cont => exact False.elim hq
/-! ### defs -/
def startS (N : List Str) (ds : List D) : SS := ds.map Sl.v ++ List.replicate (N.length - ds.length) Sl.u
abbrev Ctr := List D → (D → Prop) → (Err → Prop) → Prop
/-- a contract over data, as the layer below wants it -/
def spD (P : Gl0) (gp : B → Prop) (n : Nat) (c : Ctr) : Sp := fun vs H Q E => ∃ (g : G) (ds : List D) (Qd : D → Prop) (Qx : Err → Prop), gp g.toB ∧ vs.length = n ∧ SG P g g.M H ∧ DenL P g g.M H vs ds ∧ c ds Qd Qx ∧
  (∀ v H' d, Ext g.W H H' → SG P g g.M H' → Den P g g.M H' v d → Qd d → Q v H') ∧ (∀ cls dd H' e, Ext g.W H H' → SG P g g.M H' → ErrD P g g.M H' cls dd e → Qx e → E cls dd H')
def E00 : Ex := ⟨fun _ => False, fun _ _ => True, fun _ _ _ _ _ _ => trivial⟩
theorem startS_own {N : List Str} {ds : List D} {i : Nat} {d : D} (h : (startS N ds)[i]? = some (.own d)) : False := by
  unfold startS at h
  have hm := List.mem_of_getElem? h
  rcases List.mem_append.mp hm with hm | hm
  · obtain ⟨_, _, z⟩ := List.mem_map.mp hm
    cases z
  · cases (List.mem_replicate.mp hm).2
theorem rg_start {N : List Str} {ds : List D} {vs : List V} (x : Addr) : Rg g E00 (L2.start N vs) (startS N ds) x ↔ g.M x := by
  constructor
  · rintro (h | h | ⟨i, d, h, _⟩)
    · exact h
    · exact h.elim
    · exact (startS_own h).elim
  · exact .inl
theorem stt_start {N : List Str} {ds : List D} {vs : List V} (sg : SG P g g.M H) (dl : DenL P g g.M H vs ds) : Stt P g E00 H (startS N ds) (L2.start N vs) H := by
  have hl := dl.length
  refine ⟨sg.sub fun a r => (rg_start a).mp r, trivial, Ext.refl _ _, ?_, fun i d h => ?_, fun i d h => (startS_own h).elim, fun i j d e a h => (startS_own h).elim⟩
  · unfold startS L2.start
    simp [hl]
  · unfold startS at h
    unfold L2.start
    by_cases hi : i < ds.length
    · rw [List.getElem?_append_left (by rw [List.length_map]; exact hi), List.getElem?_map] at h
      obtain ⟨d', h1, h2⟩ := Option.map_eq_some_iff.mp h
      cases h2
      obtain ⟨v, h3, h4⟩ := dl.get h1
      refine ⟨v, ?_, Den.mv (Mv.sub fun a r => (rg_start a).mp r) h4⟩
      rw [List.getElem?_append_left (by rw [List.length_map, hl]; exact hi), List.getElem?_map, h3]
      rfl
    · rw [List.getElem?_append_right (by rw [List.length_map]; omega)] at h
      have := List.mem_of_getElem? h
      cases (List.mem_replicate.mp this).2
/-- the wishes at a body's ends -/
def endsD (Qd : D → Prop) (Qx : Err → Prop) : DEnds := { nx := fun _ => Qd .non, rt := Qd, ex := fun e _ => Qx e }
theorem fnD {Pr : Program} {w : World} {K : PySem.W.Frag} {mg : Str → Option Value} {base : Heap} {x qual : Str} {f : Addr} {fd : FuncData} {N ps : List Str} {k : Nat} {gp : B → Prop} {c : Ctr} {t : TSt}
    (F : L2.Fun K x qual st f fd) (S : FnScope N ps (defScope st))
    (hbody : ∀ (g : G), gp g.toB → ∀ (cdv : Value) (A : Around) (outer : List Env) (s : Shared) (H : Hp) (E : XK), Room k (A.deeper (envOfC qual (defScope st) s.heap.objs.size f cdv)) → (A.deeper (envOfC qual (defScope st) s.heap.objs.size f cdv)).guards = some [] → DSs (cxOf (L2.CX Pr w) Pr w K mg base N qual (defScope st) f cdv A outer s H E) P g (defBody st) t)
    (read : ∀ ds Qd Qx, ds.length = ps.length → c ds Qd Qx → t (endsD Qd Qx) (startS N ds)) : FnG Pr w K mg base (L2.CX Pr w) (k + 1) f fd ps (spD P gp ps.length c) := by
  refine fnG_of F S (fun vs H Q E ⟨g, ds, Qd, Qx, _, h, _⟩ => h) fun cdv A outer s H vs Q E hr hgd hsp => ?_
  obtain ⟨g, ds, Qd, Qx, hgp, hl, sg, dl, hc, hq, hx⟩ := hsp
  have hds : ds.length = ps.length := by rw [← dl.length]; exact hl
  have sub : ∀ {E : Ex} {σ : St} {ss : SS} a, g.M a → Rg g E σ ss a := fun a r => .inl r
  have key : ∀ {σ : St} {ss : SS} {H' : Hp} {v : V} {d : D}, Stt P g E00 H ss σ H' → Den P g g.M H' v d → Qd d → Q v H' := fun S' n q => hq _ _ _ S'.grow (S'.sg.sub fun a r => sub a r) n q
  refine ⟨_, (hbody g hgp cdv A outer s H E hr hgd).pss, E00, H, startS N ds, endsD Qd Qx, stt_start sg dl, .inr ?_, read ds Qd Qx hds hc, ?_, ?_, ?_, ?_⟩
  · refine (takes_of rfl rfl rfl rfl).imp fun cls dd σ H' ⟨err, ss, S', h1, h2⟩ => hx cls dd H' err S'.grow (S'.sg.sub fun a r => sub a r) (ErrD.mv (Mv.sub fun a r => sub a r) h1) h2
  · rintro σ' H' ⟨ss', S', q⟩
    exact key S' .non q
  · rintro σ' H' ⟨ss', S', q⟩
    exact q.elim
  · rintro σ' H' ⟨ss', S', q⟩
    exact q.elim
  · rintro v H' ⟨d, σ, ss, S', n, q⟩
    exact key S' (Den.mv (Mv.sub fun a r => .inl r) n) q
def vCall (n : Nat) (c : Ctr) (tl : TL) : TD := fun ss Q Qx => tl ss (fun ds => ds.length = n ∧ c ds Q (fun e => Qx e ss)) Qx
/-- the caller's context as the callee has it -/
def G.at (g : G) (E : Ex) (σ : St) (ss : SS) : G := { toB := g.toB, M := Rg g E σ ss, hW := fun a w => Rg.W w, z := g.z, hz := g.hz }
theorem mv_at {R R' : Addr → Prop} (h : ∀ a, R' a → R a) : Mv g (g.at E σ ss) R R' H H := ⟨fun a o n q _ => ⟨q, fun w => n (h a w)⟩, fun _ _ b => b⟩
theorem mv_ta {R R' : Addr → Prop} (h : ∀ a, R' a → R a) : Mv (g.at E σ ss) g R R' H H := ⟨fun a o n q _ => ⟨q, fun w => n (h a w)⟩, fun _ _ b => b⟩
theorem SG.at {R : Addr → Prop} (s : SG P g R H) : SG P (g.at E σ ss) R H := ⟨s.tabs, s.inv, s.trk, s.pin⟩
theorem SG.off {R : Addr → Prop} (s : SG P (g.at E σ ss) R H) : SG P g R H := ⟨s.tabs, s.inv, s.trk, s.pin⟩
/-- the contract's wish, at a call -/
theorem spD_at {gp : B → Prop} {n : Nat} {c : Ctr} {vs : List V} {ds : List D} {Q : D → Prop} {Qx : Err → SS → Prop} {K : VK} {XE : XK} (hgp : gp g.toB) (S : Stt P g E H0 ss σ H) (dl : DenL P g (Rg g E σ ss) H vs ds) (hl : ds.length = n) (hc : c ds Q (fun e => Qx e ss))
    (hk : ∀ v H', EPD P g E H0 ss σ H Q v H' → K v H') (hx : ∀ cls dd H' e, Stt P g E H0 ss σ H' → ErrD P g (Rg g E σ ss) H' cls dd e → Qx e ss → XE cls dd H') : spD P gp n c vs H K XE := by
  refine ⟨g.at E σ ss, ds, Q, _, hgp, by rw [dl.length]; exact hl, S.sg.at, DenL.mv (mv_at fun a r => r) dl, hc, fun v H' d e sg nd q => ?_, fun cls dd H' er e sg ne q => ?_⟩
  · exact hk v H' ⟨d, S.ext e sg.off, e, Den.mv (mv_ta fun a r => r) nd, q⟩
  · exact hx cls dd H' er (S.ext e sg.off) (ErrD.mv (mv_ta fun a r => r) ne) q
theorem d_call {k : Nat} {f : Addr} {fd : FuncData} {ps : List Str} {gp : B → Prop} {n : Nat} {c : Ctr} {x : Str} {p : Pos} (F : FnG X.prog X.w X.K X.mg X.base (L2.CX X.prog X.w) k f fd ps (spD P gp n c)) (hr : Room k X.A) (hgd : X.A.guards = some []) (hg : Gl X x) (hm : X.mg x = some (.ref f)) (hk : PySem.W.keepIn X.K (.ref f) = true) (hb : Binds X.K fd ps []) (hgp : gp g.toB)
    (ha : DA X P g (e :: es) tl) (hdb : (x == ("__debug__" : Str)) = false := by decide) (he : starEach (e :: es) X.env = (false, eval e X.env) :: starEach es X.env := by rfl) (hpl : (backTo pos (starEach es X.env)).any (·.1) = false := by rfl) :
    DE X P g (.Call (.Name x p) (e :: es) [] pos) (vCall n c tl) := by
  refine ⟨fun pins s σ H E H0 ss Q Qx I S T h => ?_⟩
  refine wpAny_Call_Name_kw (ld_glob I hg hm ?_ hdb)
  obtain ⟨XE, hXE, hx⟩ : ∃ XE : XK, (∀ cls dd H' e, Stt P g E H0 ss σ H' → ErrD P g (Rg g E σ ss) H' cls dd e → Qx e ss → XE cls dd H') ∧ PassesAt (L2.CX X.prog X.w) X σ XE := by
    rcases T with T | T
    · refine ⟨fun _ _ _ => False, fun cls dd H' e _ _ z => (T _ _ z).elim, fun pins H s e s' I c => ?_⟩
      obtain ⟨_, _, _, _, _, _, _, _, _, _, _, _, z⟩ := c
      exact z.elim
    · exact ⟨_, fun cls dd H' e S n z => ⟨e, ss, S, n, z⟩, passAt T σ⟩
  refine PySem.W.callWith_K (h₀ := X.base) I.ok.mod.kin hk (thn (ha.run pos pins s σ H E H0 ss _ Qx I S T h) fun us s1 ⟨vs, H1, I1, r, ds, S1, e1, n1, q1, q2⟩ => ⟨I1.kIn, ?_⟩) he hpl
  exact run_fnG F hr hgd hb hx I1 r (spD_at hgp S1 n1 q1 q2 (fun v H' z => EPD.back e1 z) hXE)
end
end DL

set_option maxRecDepth 100000
set_option maxHeartbeats 4000000
namespace DLX
open PySem PySem.W PySem.Calls PyProof.Rows

section
variable {prog : Program} {w : World} {A : Around} {E : Value → Shared → Prop} {h : Heap} {g : Array GenState} {d : Drawn} {t : Nat} {os : OsState}
/-- the wrapper called: ValueError.__init__ on the object -/
theorem call_mw {u e t0 C : Addr} {K : Frag} {rest : List Value} {nm q : Str} {N : Addr} {bs bm : List Value} {hdct : Bool} {sn : List Str} {sub : List Value} {ab : Bool} {col : Option Bool} {dd : Option Addr} {k0 k1 k2 k3 k5 : Option Value} {Q : Value → Shared → Prop}
    (hC : h.get? C = some (excClassObj nm q C N bs bm hdct sn sub ab col dd k0 k1 k2 k3 k5 "ValueError.__new__")) (he : h.get? e = some (PySem.HandSPX.excO C t0)) (hu : h.get? u = some (kxs_mw "ValueError.__init__" e)) (hz : rest.length ≤ sizeLine)
    (fin : ∀ h' t1, (∀ b o, b ≠ e → h.get? b = some o → h'.get? b = some o) → h'.get? e = some (PySem.HandSPX.excO C t1) → Q .none ⟨h', g, d, t, os⟩) :
    wpAny (model prog w) A (call (.ref u) rest) Q E ⟨h, g, d, t, os⟩ := by
  refine wpAny_call (codeAny_of_tree ?_)
  show wpAny _ A.in1 (callAny (.ref u) ⟨rest, []⟩) _ _ _
  simp only [callAny]
  refine wpAny_bind (wpAny_load hu ?_)
  simp only [kxs_mw, show (Value.type "method-wrapper" == Value.type "method" || Value.type "method-wrapper" == Value.type "builtin_function_or_method" || Value.type "method-wrapper" == Value.type "method-wrapper") = true by decide, if_true]
  refine KFB.if_so (by decide) ?_
  refine wpAny_bind (check_bound_init F.excBase_ValueError.toExcCallFacts hC he rfl ?_)
  refine wpAny_bind (wpAny_pure (wpAny_pure ?_))
  refine ⟨plainId_quiet F.excBase_ValueError.init.plain _, codeAny_builtin F.excBase_ValueError.initEntry ?_⟩
  exact exc_init_tree (cls := .ref C) (t0 := t0) (dv := none) (c2 := .none) (c3 := .none) (b4 := .bool false) he hz fun h' k e' t' => fin h' _ k e'

/-- the words of an __init__ that says super().__init__('..'); self.f = p -/
structure Words (K : Frag) (prog : Program) (C f : Addr) (qual attr pn : Str) (body : List Stmt) (scope : Scope) : Prop where
  bd : ∃ p0 p1 p2 txt j p3 p4 p5 q1 q2 q3 q4, body = [.Expr (.Call (.Attribute (.Call (.Name "super" p0) [] [] p1) "__init__" p2) [.Constant (.str txt) j p3] [] p4) p5, .Assign [.Attribute (.Name "self" q1) attr q2] (.Name pn q3) q4] ∧
    (∃ pl : Sem Bool, ∀ env, eval (.Call (.Attribute (.Call (.Name "super" p0) [] [] p1) "__init__" p2) [.Constant (.str txt) j p3] [] p4) env = (do
      let ov ← attributeBase (.Call (.Name "super" p0) [] [] p1) "__init__" env (eval (.Call (.Name "super" p0) [] [] p1) env)
      standAt p2.atName
      let (f, first) ← holding [ov] (getMethod ov "__init__" pl)
      callWith p4 f first (backTo p4 (starEach [.Constant (.str txt) j p3] env)) [])) ∧
    (∀ env, swapsWith (.Call (.Attribute (.Call (.Name "super" p0) [] [] p1) "__init__" p2) [.Constant (.str txt) j p3] [] p4) none p5.line env = pure false) ∧
    (∀ env, swapsWith (.Name pn q3) (some (.Attribute (.Name "self" q1) attr q2)) q4.line env = pure false)
  fn : ∃ oc od osl name params dV kV doc pm an cda ct cc, K.lookup f = some ⟨oc, od, .func (ksFn name qual params body scope dV kV doc pm an (.ref cda) ct cc), osl⟩ ∧ codeIn K (.ref cda) qual = true ∧ (∃ ar, (params.posonlyargs ++ params.args).head? = some ar ∧ ar.arg = "self") ∧
    (∃ ccl cdd vs ccs file tf, K.lookup cda = some ⟨ccl, cdd, .fields vs, ccs⟩ ∧ vs[2]? = some (.str file tf) ∧ ((prog.main.file : Str) == file) = true) ∧ (∃ cl cld csl, K.lookup cc = some ⟨cl, cld, .cell (some (.ref C)), csl⟩)
  top : (prog.main.scope.names.lookup ("super" : Str)).isSome = false
  sup : nsIn K mainGlobals "super" = some none
  opq : nsIn K cStatics "thirdparty.any" = some none
  ini : ks_superIn K C C "__init__" = some (some (.builtin "ValueError.__init__"))
  subC : mroIn K C (.ref C) = some true
  subB : subIn K (.ref C) (.type "ValueError") = some true
  no : findIn K (.ref C) attr = some none
  s1 : scope.names.lookup ("super" : Str) = some .globalImplicit
  s2 : scope.names.lookup ("__class__" : Str) = some .free
  s3 : scope.names.lookup ("self" : Str) = some .local
  s4 : scope.names.lookup pn = some .local
  s5 : scope.kind = .function
  s6 : scope.isCoroutine = false
  s7 : scope.isGenerator = false
  s8 : ∀ x ∈ scope.names, x.2 ≠ .cell
  s9 : pn ≠ ("self" : Str)
  s10 : (pn == ("__debug__" : Str)) = false

theorem inter_no (env : Env) (h : env.scope.kind = .function) : interactive env = false := by
  unfold interactive
  rw [h]
  rfl
theorem init_run {K : Frag} {mg mb : Str → Option Value} {C f e t0 : Addr} {qual attr pn : Str} {body : List Stmt} {scope : Scope} {u : Value} {args : Args} {fd : FuncData} {R : Result → Shared → Prop}
    (X : K.In h) (lim : h.NoLimit) (G : h.Ns mainGlobals mg) (B : h.Ns builtinsNs mb) (hmb : mb "super" = some (.type "super")) (T : L2.OexC K C) (W : Words K prog C f qual attr pn body scope)
    (hfd : ∃ oc od osl, K.lookup f = some ⟨oc, od, .func fd, osl⟩) (hroom : A.depth < recursionLimit) (hbind : BindsTo ⟨h, g, d, t, os⟩ fd args [(("self" : Str), Value.ref e), (pn, u)]) (he : h.get? e = some (PySem.HandSPX.excO C t0)) (hKe : K.lookup e = none)
    (hq : ∀ h' tk dx t1, (∀ b o, b ≠ e → h.get? b = some o → h'.get? b = some o) → h.objs.size ≤ dx → dx ≠ e → h'.get? e = some ({ cls := .ref C, dict := some dx, data := .fields #[.ref t1, .none, .none, .none, .bool false, .none] } : Obj) → h'.Ns1 dx (fun y => if y = attr then some u else none) → R (.ok (.ret .none)) ⟨h', g, d, tk, os⟩) :
    codeAny (model prog w) A (.call (.ref f) args) R ⟨h, g, d, t, os⟩ := by
  obtain ⟨p0, p1, p2, txt, j, p3, p4, p5, q1, q2, q3, q4, eb, ⟨pl, hev⟩, hsw1, hsw2⟩ := W.bd
  obtain ⟨oc, od, osl, name, params, dV, kV, doc, pm, an, cda, ct, cc, ho, hcd, ⟨ar, hp, har⟩, ⟨ccl, cdd, vs, ccs, file, tf, hcode, hvs, hfile⟩, ⟨cl, cld, csl, hcell⟩⟩ := W.fn
  obtain ⟨oc', od', osl', hfd⟩ := hfd
  rw [ho] at hfd
  cases hfd
  subst eb
  obtain ⟨nm, q, N, bs, bm, sn, sub, ab, col, dd, k0, k1, k2, k3, k5, hC, hbm⟩ := T.cls
  have hcl : clsIn K C = some { name := nm, bases := bs, mro := .ref C :: bm, ns := N, qualname := q, hasDict := true, slotNames := sn, subclasses := sub, abstract := ab, collection := col, hasDel := false } := by unfold clsIn; rw [hC] <;> rfl
  refine ks_codeAny_call_defAt (fd := ksFn name qual params _ scope dV kV doc pm an (.ref cda) ct cc) (binds := [(("self" : Str), Value.ref e), (pn, u)]) hroom (X _ _ ho) rfl lim (codeRec_of X hcd) rfl hbind W.s8 (fun y hy => ?_) (fun h₁ hns hk₁ => ?_) W.s6 W.s7 W.s5
  · rcases List.mem_cons.mp hy with rfl | hy
    · exact W.s3
    · rcases List.mem_cons.mp hy with rfl | hy
      · exact W.s4
      · cases hy
  have X1 : K.In h₁ := X.keeps hk₁
  have hL : ∀ b o, h.get? b = some o → b ≠ h.objs.size := fun b o z => Nat.ne_of_lt (Heap.lt_size z)
  have hself : (fun x => List.lookup x ([(("self" : Str), Value.ref e), (pn, u)].reverse)) "self" = some (.ref e) := by
    show List.lookup ("self" : Str) [(pn, u), (("self" : Str), Value.ref e)] = _
    rw [List.lookup_cons, show (("self" : Str) == pn) = false from by simpa using fun z => W.s9 z.symm]
    rfl
  have hpn : (fun x => List.lookup x ([(("self" : Str), Value.ref e), (pn, u)].reverse)) pn = some u := by
    show List.lookup pn [(pn, u), (("self" : Str), Value.ref e)] = _
    rw [List.lookup_cons, beq_self_eq_true]
  generalize (fun x => List.lookup x ([(("self" : Str), Value.ref e), (pn, u)].reverse)) = m at hns hself hpn
  have hD1 := X1 _ _ hC
  refine ks_wpAt_execs_cons (ks_wpAt_Expr_any (ks_wpAt_MethodCall (ks_wpAt_super_base (env := ksEnv qual scope h.objs.size f (.ref cda) cc) W.s1 W.s2 (by decide) rfl (X1 _ _ ho) rfl hp rfl (X1 _ _ hcode) rfl hvs hfile W.top ?_) (pl := pl) (hev _)) (hs := hsw1 _) (hi := inter_no _ W.s5))
  rw [har]
  refine ks_loadName_global W.s5 W.s1 (loadGlobal_builtin (env := ksEnv qual scope h.objs.size f (.ref cda) cc) (G.keeps hk₁) (mg_none_of X G W.sup) (B.keeps hk₁) hmb ⟨rfl, ?_⟩)
  refine wpAny_loadName_free W.s5 W.s2 rfl ⟨_, X1 _ _ hcell, rfl⟩ ?_
  refine wpAny_loadName_local W.s5 W.s3 hns hself ?_
  refine ks_wpAny_isType_cls hD1 rfl ⟨rfl, ?_⟩
  refine ks_wpAny_call_super hD1 rfl (hk₁ _ _ he) rfl (fun c z => by cases z) (looks_mroIn X1 W.subC) (fun h2 e2 kp2 => ?_)
  have X2 : K.In h2 := X1.keeps kp2
  have I2 : InstAt h2 e (PySem.HandSPX.excO C t0) C none := ⟨kp2 _ _ (hk₁ _ _ he), rfl, rfl, trivial⟩
  have hm := W.ini
  unfold ks_superIn at hm
  rw [hcl] at hm
  refine kxs_getMethod (K := K) kxs_ValueError e2 (looks_opaque X2 W.opq) (l₀ := .ref C :: bm) (fun A Q E s k q => wpAny_bind ((looks_clsIn X2 hcl) A _ E s k (wpAny_pure q))) rfl X2 hm (I2.type.andThen (looks_subIn X2 W.subB)) (ks_ne X2 I2 hcl) (by decide) ?_
  refine kxs_callWith (i := "ValueError.__init__") (x := e) rfl (evalArgs_plain (spliced_cons (Constant_str (k := j) (pos := p3) (spliced_nil ⟨Heap.get?_push_at rfl rfl, ?_⟩))))
  have kp3 : ∀ b o, h2.get? b = some o → (h2.push (kxs_mw "ValueError.__init__" e)).get? b = some o := fun b o z => Heap.get?_push_of_some _ z
  refine call_mw (K := K) (t0 := t0) (kp3 _ _ (X2 _ _ hC)) (kp3 _ _ (kp2 _ _ (hk₁ _ _ he))) (Heap.get?_push_at rfl rfl) (show 1 ≤ sizeLine from by decide) (fun h4 t1 k4 e4 => ?_)
  -- the second row
  have kAll : ∀ b o, b ≠ e → h₁.get? b = some o → h4.get? b = some o := fun b o hb z => k4 b o hb (kp3 _ _ (kp2 _ _ z))
  have hLe : h.objs.size ≠ e := fun z => hL _ _ he z.symm
  have hns4 : h4.Ns h.objs.size m := hns.at fun o z => kAll _ o hLe z
  have X4 : K.In h4 := fun b o z => kAll b o (fun y => by
    rw [y, hKe] at z
    cases z) (X1 b o z)
  have I4 : InstAt h4 e (PySem.HandSPX.excO C t1) C none := ⟨e4, rfl, rfl, trivial⟩
  have hsz : h.objs.size < h4.objs.size := by
    obtain ⟨o, _, _, z, _⟩ := hns4
    exact Heap.lt_size z
  refine wpAt_of_wpAny (wpAny_execs_cons (plainObj_wpAny_Assign_Attribute (wpAny_Name (wpAny_loadName_local W.s5 W.s4 hns4 hpn (wpAny_Name (wpAny_loadName_local W.s5 W.s3 hns4 hself ?_))) W.s10) (hsw2 _)))
  refine set_plain X4 I4 T.sa ?_
  refine PySem.HandSPX.exc_osa X4 e4 hcl (show PySem.HandSPX.refsVE (.ref C :: bm) = true from hbm) rfl W.no (fun h' tk' dx k dn dne hx hn => ?_)
  refine wpAny_execs_nil ?_
  exact hq h' tk' dx t1 (fun b o hb z => k b o hb (kAll b o hb (hk₁ b o z))) (Nat.le_trans (Nat.le_of_lt hsz) dn) dne hx hn
end
end DLX
namespace DLX
open PySem PySem.Spec PyProof.Rows L2
/-- what such an __init__ does, told of what is tracked -/
def spInit (C : Addr) (attr : Str) : Sp := fun vs H Q E => ∃ (a : Addr) (v : V), vs = [.ref a, v] ∧ H a = some (exo a C none) ∧ ∀ dx, H dx = none → dx ≠ a → Q .non (upd (upd H dx (exd dx [(attr, v)])) a (exo a C (some dx)))
theorem init_ok {P : Program} {w : World} {K : PySem.W.Frag} {mg : Str → Option Value} {base : Heap} {CX : CXT} {C f : Addr} {qual attr pn : Str} {body : List Stmt} {scope : Scope} {fd : FuncData} (T : OexC K C) (W : Words K P C f qual attr pn body scope)
    (hfd : ∃ oc od osl, K.lookup f = some ⟨oc, od, .func fd, osl⟩) : FnOk P w K mg base CX 0 f fd ["self", pn] (spInit C attr) := by
  refine ⟨fun vs H Q E ⟨a, v, e, _⟩ => by rw [e]; rfl, fun A outer s H args us vs Q E hr e0 hb r hsp => ?_⟩
  obtain ⟨a, v, ev, ha, hq⟩ := hsp
  subst ev
  obtain ⟨u1, u, rfl, r1, r2⟩ := vals2 r
  cases (show u1 = Value.ref a from r1)
  have kp : ∀ b o, base.get? b = some o → s.heap.get? b = some o := fun b o e => (e0.bs b o e).1
  obtain ⟨mb, hmb, hboot⟩ := e0.mod.blt
  obtain ⟨t0, ho⟩ := exo_at e0.hok ha
  have hKe : K.lookup a = none := by
    cases q : K.lookup a with
    | none => rfl
    | some o =>
      have := (e0.bs a o (e0.mod.kin a o q)).2
      rw [ha] at this
      cases this
  obtain ⟨hp, g, d, t, os⟩ := s
  have hb' : BindsTo ⟨hp, g, d, t, os⟩ fd args [(("self" : Str), Value.ref a), (pn, u)] := hb
  refine init_run (e0.mod.kin.keeps kp) (e0.mod.nolimit.keeps kp) (e0.mod.glob.keeps kp) (hmb.keeps kp) ((hboot "super" (by decide)).trans rfl) T W hfd (by have := hr.depth; exact this) hb' ho hKe fun h' tk dx t1 k dn dne hx hn => ?_
  have hnd : H dx = none := e0.hok.fresh dn
  have nd : ∀ {b : Addr} {o : Obj}, hp.get? b = some o → b ≠ dx := fun {b o} q => Nat.ne_of_lt (Nat.lt_of_lt_of_le (Heap.lt_size q) dn)
  have na : ∀ {b : Addr}, H b = none → b ≠ a := fun {b} n z => by
    rw [z, ha] at n
    cases n
  refine ⟨.non, _, rfl, e0.bare, {
    keep := fun b o q n _ _ => k b o (na n) q
    slot := fun b o q n _ _ => ⟨o.slots, k b o (na n) q⟩
    free := fun b o q n _ => by rw [upd_ne (na n), upd_ne (nd q)]; exact n
    there := fun b o q _ => by
      by_cases hb : b = a
      · exact ⟨_, by rw [hb]; exact hx⟩
      · exact ⟨o, k b o hb q⟩
    tups := fun b xs q => by rw [upd_ne (at_ne ha q exo_tup), upd_ne (ne_of_none q hnd)]; exact q
    frzs := fun b o v q => by rw [upd_ne (at_ne ha q exo_frz), upd_ne (ne_of_none q hnd)]; exact q
    tbls := fun b ps q => ⟨#[], by rw [upd_ne (at_ne ha q exo_tbl), upd_ne (ne_of_none q hnd), q]; simp⟩ }, fun b o q => ?_, rfl, hq dx hnd dne⟩
  by_cases hb : b = a
  · subst hb
    rw [upd_same] at q
    cases q
    exact exo_ok hx
  · rw [upd_ne hb] at q
    by_cases hd : b = dx
    · subst hd
      rw [upd_same] at q
      cases q
      exact exd_ok hn (relO_put (fs := []) r2 fun g => True.intro)
    · rw [upd_ne hd] at q
      exact (e0.hok b o q).stay (fun c v hc z => k c v (by
          rcases hc with hc | hc
          · rw [hc]
            exact hb
          · exact at_ne ha hc exo_own) z)
        (fun c hc => by rw [upd_ne (at_ne ha hc exo_own), upd_ne (ne_of_none hc hnd)]; exact hc) (fun c xs hc => by rw [upd_ne (at_ne ha hc exo_tup), upd_ne (ne_of_none hc hnd)]; exact hc)
end DLX

set_option maxRecDepth 100000
set_option maxHeartbeats 4000000
namespace DLX
open PySem PySem.HandSPX
section
variable {M : Model} {A : Around} {E : Value → Shared → Prop} {h : Heap} {g : Array GenState} {d : Drawn} {t : Nat} {os : OsState}
variable {nm q : Str} {C N : Addr} {bs bm bmB : List Value} {hdct : Bool} {sn : List Str} {sub : List Value} {ab : Bool} {col : Option Bool} {dd : Option Addr} {k0 k1 k2 k3 k5 : Option Value} {B newId initId : String}
theorem check_new_kw (F : ExcBaseFacts B newId initId bmB) (hT : ∀ X : String, bm.contains (.type X) = bmB.contains (.type X)) {rest : List Value} {kw : List (Str × Value)} {Q : Unit → Shared → Prop}
    (hC : h.get? C = some (excClassObj nm q C N bs bm hdct sn sub ab col dd k0 k1 k2 k3 k5 newId)) (hq : Q () ⟨h, g, d, t, os⟩) : wpAny M A (checkBuiltinCall newId ⟨.ref C :: rest, kw⟩) Q E ⟨h, g, d, t, os⟩ := by
  have hcont : (Value.ref C :: bm).contains (.type B) = true := by rw [List.contains_cons, hT, F.hasB, Bool.or_true]
  have hstar := F.noStar
  simp only [checkBuiltinCall, F.newKind, F.newSplit, F.newRow]
  repeat (first | refine wpAny_loadPart_at hC ?_ | (refine wpAny_isSubtype_exc hC ?_; rw [hcont]) | refine wpAny_staticBase_exc hC ?_ | refine wpAny_madeBy_exc hC ?_ | simp only [bne_self_eq_false, Bool.false_eq_true, if_false] | wp_step)
  exact hq
end
section
variable {prog : Program} {w : World} {A : Around} {E : Value → Shared → Prop} {R : Result → Shared → Prop} {h : Heap} {g : Array GenState} {d : Drawn} {t : Nat} {os : OsState}
variable {nm q : Str} {C N : Addr} {bs bm bmB : List Value} {hdct : Bool} {sn : List Str} {sub : List Value} {ab : Bool} {col : Option Bool} {dd : Option Addr} {k0 k1 k2 k3 k5 : Option Value} {B newId initId : String}
theorem new_kw (F : ExcBaseFacts B newId initId bmB) (hT : ∀ X : String, bm.contains (.type X) = bmB.contains (.type X)) {rest : List Value} {kw : List (Str × Value)}
    (hC : h.get? C = some (excClassObj nm q C N bs bm hdct sn sub ab col dd k0 k1 k2 k3 k5 newId))
    (hq : R (.ok (.ret (.ref (h.objs.size + 1)))) ⟨(h.push { cls := .type "tuple", data := .seq rest.toArray }).push
      { cls := .ref C, data := .fields #[.ref h.objs.size, .none, .none, .none, .bool false, .none] }, g, d, t, os⟩) (hrest : rest.length ≤ sizeLine) :
    codeAny (model prog w) A (.builtin newId ⟨.ref C :: rest, kw⟩) R ⟨h, g, d, t, os⟩ := by
  have hends := F.ends
  have hcB : (Value.ref C :: bm).contains (.type B) = true := by rw [List.contains_cons, hT, F.hasB, Bool.or_true]
  have hcA : (Value.ref C :: bm).contains (.type "AttributeError") = false := by rw [List.contains_cons, hT, F.noAttr]; rfl
  have hcN : (Value.ref C :: bm).contains (.type "NameError") = false := by rw [List.contains_cons, hT, F.noName]; rfl
  refine codeAny_builtinAt F.entry ?_
  unfold Builtin.«BaseException.__new__»
  refine wpAt_bind ?_
  show wpAt _ _ _ (stack >>= _) _ _ _
  refine wpAt_bind (wpAt_stack fun p below => wpAt_of_wpAny ?_)
  wp_walk
  refine wpAt_of_wpAny ?_
  rw [F.owner]
  repeat (first | with_reducible refine wpAny_madeHere_exc F.canon hC ?_ | with_reducible refine wpAny_loadPart_at hC ?_ | (with_reducible refine wpAny_isSubtype_exc hC ?_; first | rw [hcB] | rw [hcA] | rw [hcN]) | wp_step)
  show R _ _
  rw [Heap.size_push]
  exact hq
theorem type_call_kw (F : ExcBaseFacts B newId initId bmB) (hT : ∀ X : String, bm.contains (.type X) = bmB.contains (.type X)) {rest : List Value} {kw : List (Str × Value)} {fI : Addr} {Q : Fin → Shared → Prop}
    (hC : h.get? C = some (excClassObj nm q C N bs bm hdct sn sub ab col dd k0 k1 k2 k3 k5 newId))
    (hi : W.Looks (model prog w) h (typeLookup (.ref C) "__init__") (some (.ref fI))) (hb : ∀ self, W.Looks (model prog w) h (bindSpecial (.ref fI) self) (.ref fI, [self])) (hrest : rest.length ≤ sizeLine)
    (hq : codeAny (model prog w) A (.call (.ref fI) ⟨.ref (h.objs.size + 1) :: rest, kw⟩)
      (fun r s' => match r with | .ok (.ret v) => v = .none ∧ Q (.done (.ret (.ref (h.objs.size + 1)))) s' | .ok _ => False | .error e => E e s')
      ⟨(h.push (W.kdv_tup rest)).push (excO C h.objs.size), g, d, t, os⟩) :
    wpAny (model prog w) A (Builtin.«type.__call__» ⟨.ref C :: rest, kw⟩) Q E ⟨h, g, d, t, os⟩ := by
  repeat (first | with_reducible refine wpAny_loadPart_at hC ?_ | with_reducible refine wpAny_madeBy_exc hC ?_ | wp_step)
  refine codeAny_call_builtin_code (Code.quiet_builtin _ F.quiet) (check_new_kw F hT hC ?_)
  refine new_kw F hT hC ?_ hrest
  show wpAny _ _ _ _ _ _
  have k : ∀ b o, h.get? b = some o → ((h.push (W.kdv_tup rest)).push (excO C h.objs.size)).get? b = some o := fun b o e => Heap.get?_push_of_some _ (Heap.get?_push_of_some _ e)
  have hC₁ := k _ _ hC
  have hget : ((h.push (W.kdv_tup rest)).push (excO C h.objs.size)).get? (h.objs.size + 1) = some (excO C h.objs.size) := by heap_get
  have hcC : (Value.ref C :: bm).contains (.ref C) = true := by simp
  have i1 := hi.keeps k
  have b1 := (hb (.ref (h.objs.size + 1))).keeps k
  unfold isInstance
  repeat (first | with_reducible refine wpAny_loadPart_at hget ?_ | (with_reducible refine wpAny_isSubtype_exc hC₁ ?_; rw [hcC]) | wp_step)
  show wpAny _ _ (typeLookup (.ref C) _) _ _ _
  refine i1.at ?_
  refine wpAny_holding (wpAny_bind (b1.at ?_))
  refine wpAny_bind (wpAny_call (codeAny_mono hq fun r s' z => ?_))
  rcases r with e | (v | _ | _ | _) <;> first | exact z | exact z.elim | skip
  obtain ⟨rfl, z⟩ := z
  first
    | exact wpAny_pure (wpAny_pure z)
    | (wp_walk; exact z)
theorem check_type_kw {M : Model} {rest : List Value} {kw : List (Str × Value)} {Q : Unit → Shared → Prop} (hC : h.get? C = some (excClassObj nm q C N bs bm hdct sn sub ab col dd k0 k1 k2 k3 k5 newId))
    (hq : Q () ⟨h, g, d, t, os⟩) : wpAny M A (checkBuiltinCall "type.__call__" ⟨.ref C :: rest, kw⟩) Q E ⟨h, g, d, t, os⟩ := by
  have f3 := tc_sub
  have hT : (⟨h, g, d, t, os⟩ : Shared).TypeIs (.ref C) "type" := ⟨_, hC, rfl⟩
  simp only [checkBuiltinCall, tc_kind, tc_split]
  repeat (any_goals (first | assumption | with_reducible refine wpAny_loadPart_at hC ?_ | with_reducible refine wpAny_onRaise ?_ | with_reducible refine wpAny_map ?_ | wp_step))
theorem call_kw (F : ExcBaseFacts B newId initId bmB) (hT : ∀ X : String, bm.contains (.type X) = bmB.contains (.type X)) {rest : List Value} {kw : List (Str × Value)} {fI : Addr}
    (hC : h.get? C = some (excClassObj nm q C N bs bm hdct sn sub ab col dd k0 k1 k2 k3 k5 newId))
    (hi : W.Looks (model prog w) h (typeLookup (.ref C) "__init__") (some (.ref fI))) (hb : ∀ self, W.Looks (model prog w) h (bindSpecial (.ref fI) self) (.ref fI, [self])) (hrest : rest.length ≤ sizeLine)
    (hq : codeAny (model prog w) (A.under (.builtin "type.__call__" ⟨.ref C :: rest, kw⟩)) (.call (.ref fI) ⟨.ref (h.objs.size + 1) :: rest, kw⟩) (W.InitBack (h.objs.size + 1) R)
      ⟨(h.push (W.kdv_tup rest)).push (excO C h.objs.size), g, d, t, os⟩) :
    codeAny (model prog w) A (.call (.ref C) ⟨rest, kw⟩) R ⟨h, g, d, t, os⟩ := by
  have f1 := tc_lookup
  have f2 := tc_bind (.ref C)
  have hTy : (⟨h, g, d, t, os⟩ : Shared).TypeIs (.ref C) "type" := ⟨_, hC, rfl⟩
  refine codeAny_of_tree ?_
  show wpAny _ _ (callAny (.ref C) _) _ _ _
  repeat (any_goals (first | assumption | with_reducible refine wpAny_loadPart_at hC ?_ | wp_step))
  refine ⟨rfl, ?_⟩
  refine codeAny_call_builtin_at (Code.quiet_builtin _ (by decide +kernel)) entry_typeCall (check_type_kw hC (type_call_kw F hT hC hi hb hrest ?_))
  refine codeAny_mono hq fun r s' z => ?_
  rcases r with e | (v | _ | _ | _) <;> exact z
end
end DLX

set_option maxRecDepth 100000
set_option maxHeartbeats 4000000
namespace DL
open PySem PySem.Spec PyProof.Rows L2 LamX NdefX DLX

section
variable {X : Cx} {pins : List (Addr × Obj)} {σ : St} {H1 : Hp}
/-- C(e): the exception made, as a value -/
theorem oex_made {hp hp2 h2 : Heap} {g1 g2 : Array GenState} {d1 d2 : Drawn} {t1 t2 : Nat} {os1 os2 : OsState} {a C dx : Addr} {fs : List (Str × V)} (I1 : Inv X pins σ H1 ⟨hp, g1, d1, t1, os1⟩)
    (ha : hp.objs.size ≤ a) (k : ∀ b o, hp.get? b = some o → hp2.get? b = some o) (hda : dx ≠ a) (hd1 : H1 dx = none) (un : Un (frs X.stack) [] (upd H1 a (exo a C none)) (upd (upd (upd H1 a (exo a C none)) dx (exd dx fs)) a (exo a C (some dx))) hp2 h2)
    (hok : HOk X.prog X.w (upd (upd (upd H1 a (exo a C none)) dx (exd dx fs)) a (exo a C (some dx))) h2) (ho : os2 = os1) (hb : AllBare g2) :
    Inv X pins σ (upd (upd H1 dx (.xd fs)) a (ExvO a C (some dx))) ⟨h2, g2, d2, t2, os2⟩ := by
  have hn : H1 a = none := I1.hok.fresh ha
  obtain ⟨H2, eH2⟩ : ∃ H2, H2 = upd (upd (upd H1 a (exo a C none)) dx (exd dx fs)) a (exo a C (some dx)) := ⟨_, rfl⟩
  rw [← eH2] at un hok
  have ea : H2 a = some (exo a C (some dx)) := by rw [eH2, upd_same]
  have ed : H2 dx = some (exd dx fs) := by rw [eH2, upd_ne hda, upd_same]
  have e0 : ∀ b, b ≠ a → b ≠ dx → H2 b = H1 b := fun b h1 h2 => by rw [eH2, upd_ne h1, upd_ne h2, upd_ne h1]
  obtain ⟨t0, hoe⟩ := exo_at hok ea
  obtain ⟨mA, hns, rel⟩ := exd_at hok ed
  have nha : ∀ {b : Addr} {o : Obj}, hp.get? b = some o → b ≠ a := fun {b o} z => Nat.ne_of_lt (Nat.lt_of_lt_of_le (Heap.lt_size z) ha)
  have up : ∀ {b : Addr}, b ≠ a → H1 b = none → upd H1 a (exo a C none) b = none := fun {b} hb n => by rw [upd_ne hb]; exact n
  have nd : ∀ {b : Addr} {o : Obj}, hp.get? b = some o → H1 b = none → b ≠ dx := fun {b o} z n e => by
    have y := un.free b o (k b o z) (up (nha z) n) (by simp)
    rw [e, ed] at y
    cases y
  have U : Un (frs X.stack) [] H1 (upd (upd H1 dx (.xd fs)) a (ExvO a C (some dx))) hp h2 := {
    keep := fun b o z n hf hx => un.keep b o (k b o z) (up (nha z) n) hf hx
    slot := fun b o z n hf hx => un.slot b o (k b o z) (up (nha z) n) hf hx
    free := fun b o z n hx => by
      rw [upd_ne (nha z), upd_ne (nd z n)]
      exact n
    there := fun b o z hx => un.there b o (k b o z) hx
    tups := fun b xs z => by
      rw [upd_ne (ne_of_none z hn), upd_ne (ne_of_none z hd1)]
      exact z
    frzs := fun b o v z => by
      rw [upd_ne (ne_of_none z hn), upd_ne (ne_of_none z hd1)]
      exact z
    tbls := fun b ps z => by
      obtain ⟨m, e⟩ := un.tbls b ps (by rw [upd_ne (ne_of_none z hn)]; exact z)
      refine ⟨m, ?_⟩
      rw [upd_ne (ne_of_none z hn), upd_ne (ne_of_none z hd1)]
      rw [e0 b (ne_of_none z hn) (ne_of_none z hd1)] at e
      exact e }
  have hok3 : HOk X.prog X.w (upd (upd H1 dx (.xd fs)) a (ExvO a C (some dx))) h2 := fun b o z => by
    by_cases hba : b = a
    · subst hba
      rw [upd_same] at z
      cases z
      exact ⟨⟨_, _, hoe, rfl, rfl, rfl⟩, ⟨_, hoe⟩, fun h1 h2 ⟨oe, vs, q1, q2⟩ kk => ⟨oe, vs, kk _ q1, q2⟩⟩
    · rw [upd_ne hba] at z
      by_cases hbd : b = dx
      · subst hbd
        rw [upd_same] at z
        cases z
        exact ⟨mA, hns, rel⟩
      · rw [upd_ne hbd] at z
        have z2 : H2 b = some o := by rw [e0 b hba hbd]; exact z
        have nea : ∀ {c : Addr} {u : HO}, H2 c = some u → exo a C (some dx) ≠ u → c ≠ a := fun {c u} hc n => at_ne ea hc n
        exact (hok b o z2).stay (fun c v hc y => y) (fun c hc => by
            have h1 := at_ne ea hc exo_own
            have h2 := at_ne ed hc exd_own
            rw [upd_ne h1, upd_ne h2, ← e0 c h1 h2]; exact hc)
          (fun c xs hc => by
            have h1 := at_ne ea hc exo_tup
            have h2 := at_ne ed hc exd_tup
            rw [upd_ne h1, upd_ne h2, ← e0 c h1 h2]; exact hc)
  exact I1.call' (ch := []) ho U hok3 hb (fun b z => absurd z (by simp))
/-- the value's reading -/
def tMkV (C : Addr) (attr : Str) (te : TE) : TE := fun σ H Q => te σ H fun v H1 => ∀ a dx, H1 a = none → H1 dx = none → dx ≠ a → Q (.ref a) (upd (upd H1 dx (.xd [(attr, v)])) a (ExvO a C (some dx)))
/-- how such an __init__ binds -/
structure BX (fd : FuncData) (pn : Str) : Prop where
  pos : ∀ (s : Shared) (self u : Value), BindsTo s fd ⟨[self, u], []⟩ [(("self" : Str), self), (pn, u)]
  kw : ∀ (s : Shared) (self u : Value), BindsTo s fd ⟨[self], [(pn, u)]⟩ [(("self" : Str), self), (pn, u)]
theorem run_oex {CX : CXT} {C fI : Addr} {k : Nat} {fd : FuncData} {pn attr : Str} {s1 : Shared} {us : List Value} {kw : List (Str × Value)} {v : V} {u : Value} {Q : VK} (T : OexC X.K C) (iC : PySem.W.findIn X.K (.ref C) "__init__" = some (some (.ref fI))) (tI : PySem.W.typeIn X.K (.ref fI) = some (.type "function"))
    (F1 : FnOk X.prog X.w X.K X.mg X.base CX k fI fd ["self", pn] (spInit C attr)) (hr : Room (k + 1) X.A) (hb : ∀ (s : Shared) (self : Value), BindsTo s fd ⟨self :: us, kw⟩ [(("self" : Str), self), (pn, u)]) (hus : us.length ≤ sizeLine) (hx : Passes CX X (fun _ _ _ => False)) (I1 : Inv X pins σ H1 s1) (r1 : RelV v u)
    (q1 : ∀ a dx, H1 a = none → H1 dx = none → dx ≠ a → Q (.ref a) (upd (upd H1 dx (.xd [(attr, v)])) a (ExvO a C (some dx)))) : wpAny (model X.prog X.w) X.A (call (.ref C) us kw) (EP X pins σ Q) X.xe s1 := by
  obtain ⟨nm, q, N, bs, bm, sn, sub, ab, col, dd, k0, k1, k2, k3, k5, hC, hbm⟩ := T.cls
  obtain ⟨hp, g, dr, tk, os⟩ := s1
  have hsz : hp.objs.size ≤ hp.objs.size + 1 := Nat.le_succ _
  have hn : H1 (hp.objs.size + 1) = none := I1.hok.fresh hsz
  have kk : ∀ b o, hp.get? b = some o → ((hp.push (PySem.W.kdv_tup us)).push (PySem.HandSPX.excO C hp.objs.size)).get? b = some o := fun b o e => Heap.get?_push_of_some _ (Heap.get?_push_of_some _ e)
  have hget : ((hp.push (PySem.W.kdv_tup us)).push (PySem.HandSPX.excO C hp.objs.size)).get? (hp.objs.size + 1) = some (PySem.HandSPX.excO C hp.objs.size) := by heap_get
  have I2 : Inv X pins σ (upd H1 (hp.objs.size + 1) (exo (hp.objs.size + 1) C none)) ⟨(hp.push (PySem.W.kdv_tup us)).push (PySem.HandSPX.excO C hp.objs.size), g, dr, tk, os⟩ :=
    I1.laid (t' := tk) (a := hp.objs.size + 1) (o := exo (hp.objs.size + 1) C none) (h' := (hp.push (PySem.W.kdv_tup us)).push (PySem.HandSPX.excO C hp.objs.size)) kk hsz (exo_ok hget)
  have r2 : Vals [V.ref (hp.objs.size + 1), v] [Value.ref (hp.objs.size + 1), u] := .cons rfl (.cons r1 .nil)
  have hq : spInit C attr [V.ref (hp.objs.size + 1), v] (upd H1 (hp.objs.size + 1) (exo (hp.objs.size + 1) C none)) (fun x H2 => x = .non ∧ ∃ dx, H1 dx = none ∧ dx ≠ hp.objs.size + 1 ∧ H2 = upd (upd (upd H1 (hp.objs.size + 1) (exo (hp.objs.size + 1) C none)) dx (exd dx [(attr, v)])) (hp.objs.size + 1) (exo (hp.objs.size + 1) C (some dx))) (fun _ _ _ => False) :=
    ⟨_, v, rfl, upd_same, fun dx n ne => ⟨rfl, dx, by rw [upd_ne ne] at n; exact n, ne, rfl⟩⟩
  refine wpAny_call (call_kw F.excBase_ValueError (fun Y => PySem.HandSPX.refsVE_contains Y bm hbm) (I1.kIn _ _ hC) (PySem.W.looks_findIn I1.kIn iC) (fun self => PySem.W.bind_fn I1.kIn self tI) hus
    (codeAny_mono (F1.run _ X.stack _ _ ⟨Value.ref (hp.objs.size + 1) :: us, kw⟩ [Value.ref (hp.objs.size + 1), u] _ _ (fun _ _ _ => False) (hr.make C us kw) (I2.env0.make C us kw) (hb _ _) r2 hq) fun r s' hq' => ?_))
  cases r with
  | error er => exact hx pins σ _ _ er s' I2 hq'
  | ok fl =>
    cases fl with
    | ret u =>
      obtain ⟨x, H2, os2, bare2, un2, hok2, rv, ev, dx, hd1, hda, eH⟩ := hq'
      subst ev
      subst eH
      obtain ⟨h2, g2, d2, t2, os'⟩ := s'
      exact ⟨rv, .ref (hp.objs.size + 1), _, oex_made I1 hsz kk hda hd1 un2 hok2 os2 bare2, rfl, q1 _ dx hn hd1 hda⟩
    | next => exact False.elim hq'
    | brk => exact False.elim hq'
    | cont => exact False.elim hq'
end

/-! ### own exceptions as data -/
/-- what is known of such a class -/
structure OexD (Pr : Program) (w : World) (K : PySem.W.Frag) (mg : Str → Option Value) (base : Heap) (C : Addr) (attr pn : Str) : Prop where
  cls : OexC K C
  fn : ∃ (fI : Addr) (fd : FuncData), PySem.W.findIn K (.ref C) "__init__" = some (some (.ref fI)) ∧ PySem.W.typeIn K (.ref fI) = some (.type "function") ∧ BX fd pn ∧ FnOk Pr w K mg base (L2.CX Pr w) 0 fI fd ["self", pn] (spInit C attr)
section
variable {X : Cx} {P : Gl0} {g : G} {e : Expr} {ta : TD} {pos p kpos : Pos} {C : Addr} {attr pn x : Str}
def vMkX (C : Addr) (attr : Str) (ta : TD) : TD := fun ss Q Qx => ta ss (fun d => Q (.exc C [(attr, d)])) Qx
theorem EPD.exc {E : Ex} {H0 H : Hp} {ss : SS} {σ : St} {Q : D → Prop} {a dx : Addr} {v : V} {d : D} (S : Stt P g E H0 ss σ H) (ha : H a = none) (hd : H dx = none) (hda : dx ≠ a) (n : Den P g (Rg g E σ ss) H v d) (q : Q (.exc C [(attr, d)])) :
    EPD P g E H0 ss σ H Q (.ref a) (upd (upd H dx (.xd [(attr, v)])) a (ExvO a C (some dx))) := by
  have ha' : upd H dx (.xd [(attr, v)]) a = none := by rw [upd_ne hda.symm]; exact ha
  have e1 : Ext g.W H (upd H dx (.xd [(attr, v)])) := Ext.new hd
  have e2 : Ext g.W (upd H dx (.xd [(attr, v)])) (upd (upd H dx (.xd [(attr, v)])) a (ExvO a C (some dx))) := Ext.new ha'
  exact ⟨_, (S.new hd).new ha', e1.trans e2, .exc (S.fresh ha) (S.fresh hd) upd_same (by rw [upd_ne hda, upd_same]) (.cons (den_W e2 (den_W e1 n)) .nil), q⟩
theorem d_mkX (T : OexD X.prog X.w X.K X.mg X.base C attr pn) (hr : Room 1 X.A) (hg : Gl X x) (hm : X.mg x = some (.ref C)) (he : DE X P g e ta) (hdb : (x == ("__debug__" : Str)) = false := by decide) (hs : starEach [e] X.env = (false, eval e X.env) :: starEach [] X.env := by rfl) (hpl : (backTo pos (starEach [] X.env)).any (·.1) = false := by rfl) :
    DE X P g (.Call (.Name x p) [e] [] pos) (vMkX C attr ta) := by
  obtain ⟨fI, fd, iC, tI, bx, F1⟩ := T.fn
  refine ⟨fun pins s σ H E H0 ss Q Qx I S T' h => ?_⟩
  refine wpAny_Call_Name_kw (ld_glob I hg hm ?_ hdb)
  refine PySem.W.callWith_K (h₀ := X.base) I.ok.mod.kin T.cls.kC (thn ((pa_cons (he.pe) pa_nil hs).run pos pins s σ H (fun vs H' => ∃ v d, vs = [v] ∧ Stt P g E H0 ss σ H' ∧ Ext g.W H H' ∧ Den P g (Rg g E σ ss) H' v d ∧ Q (.exc C [(attr, d)])) I (upE.run S T' h fun v H1 d S1 e1 n1 q1 => ⟨v, d, rfl, S1, e1, n1, q1⟩)) fun us s1 ⟨vs, H1, I1, r1, q1⟩ => ⟨I1.kIn, ?_⟩) hs hpl
  · obtain ⟨v, d, rfl, S1, e1, n1, q⟩ := q1
    cases r1 with
    | @cons _ u _ _ r1 r2 =>
      cases r2
      exact run_oex T.cls iC tI F1 hr (fun s self => bx.pos s self u) (show 1 ≤ sizeLine from by decide) passL I1 r1 fun a dx ha hd hda => EPD.back e1 (EPD.exc S1 ha hd hda n1 q)
theorem d_mkXK (T : OexD X.prog X.w X.K X.mg X.base C attr pn) (hr : Room 1 X.A) (hg : Gl X x) (hm : X.mg x = some (.ref C)) (he : DE X P g e ta) (hdb : (x == ("__debug__" : Str)) = false := by decide)
    (hall : (backToKw pos (keywordEach [⟨some pn, e, kpos⟩] X.env)).all (·.1.isSome) = true := by rfl) (hks : (backToKw pos (keywordEach [⟨some pn, e, kpos⟩] X.env)).filterMap (·.1) = [pn] := by rfl)
    (hpl : ((backTo pos (starEach [] X.env)).any (·.1) || (backToKw pos (keywordEach [⟨some pn, e, kpos⟩] X.env)).any (·.1.isNone)) = false := by rfl) :
    DE X P g (.Call (.Name x p) [] [⟨some pn, e, kpos⟩] pos) (vMkX C attr ta) := by
  obtain ⟨fI, fd, iC, tI, bx, F1⟩ := T.fn
  refine ⟨fun pins s σ H E H0 ss Q Qx I S T' h => ?_⟩
  refine wpAny_Call_Name_kw (ld_glob I hg hm ?_ hdb)
  refine PySem.W.callWith_KW0 (h₀ := X.base) I.ok.mod.kin T.cls.kC hall ?_ hpl
  refine thn ((pk_cons (he.pe) pk_nil).run pos pins s σ H (fun vs H' => ∃ v d, vs = [v] ∧ Stt P g E H0 ss σ H' ∧ Ext g.W H H' ∧ Den P g (Rg g E σ ss) H' v d ∧ Q (.exc C [(attr, d)])) I (upE.run S T' h fun v H1 d S1 e1 n1 q1 => ⟨v, d, rfl, S1, e1, n1, q1⟩)) fun us s1 ⟨vs, H1, I1, r1, q1⟩ => ⟨I1.kIn, ?_⟩
  · obtain ⟨v, d, rfl, S1, e1, n1, q⟩ := q1
    rw [hks]
    cases r1 with
    | @cons _ u _ _ r1 r2 =>
      cases r2
      exact run_oex T.cls iC tI F1 hr (fun s self => bx.kw s self u) (Nat.zero_le _) passL I1 r1 fun a dx ha hd hda => EPD.back e1 (EPD.exc S1 ha hd hda n1 q)
end
end DL

set_option maxRecDepth 100000
set_option maxHeartbeats 4000000
namespace DL
open PySem PySem.Spec PyProof.Rows L2 LamX NdefX DLX

/-- what the written part tells of the classes -/
structure Txt (K : PySem.W.Frag) (P : Gl0) : Prop where
  isa : ∀ t u b, P.isa t u = some b → PySem.W.kitOne K t u = some b
  ins : ∀ C, P.insC C → Cls K C ∧ PySem.W.findIn K (.ref C) "__class__" = some (some (.builtin "object.__class__")) ∧ PySem.W.mroIn K C (.type "object") = some true
  exc : ∀ C, P.excC C → XfC K C ∧ ExcC K C
  attr : ∀ C f, P.attr C f → PySem.W.findIn K (.ref C) f = some none
  og : PySem.W.specialIn K (.builtin "object.__class__") "__get__" = some (some (.builtin "getset_descriptor.__get__"))
  ot : PySem.W.takesIn K (.builtin "object.__class__") = some true
section
variable {X : Cx} {P : Gl0} {g : G} {a b c e : Expr} {es : List Expr} {ta tb tc : TD} {tt uu : TB} {tl : TL} {pos p p2 : Pos}
variable {E : Ex} {H0 H H1 : Hp} {ss : SS} {σ : St}
/-! ### attributes -/
def vAttr (P : Gl0) (f : Str) (ta : TD) : TD := fun ss Q Qx => ta ss (fun d => match d with
  | .ins C fs => P.insC C ∧ P.attr C f ∧ someD (fs.lookup f) Q
  | .exc C fs => P.excC C ∧ P.attr C f ∧ someD (fs.lookup f) Q
  | _ => False) Qx
theorem d_attr {f : Str} (T : Txt X.K P) (he : DE X P g e ta) (hb : attributeBase e f X.env (eval e X.env) = eval e X.env := by rfl) : DE X P g (.Attribute e f pos) (vAttr P f ta) := by
  refine ⟨fun pins s σ H E H0 ss Q Qx I S T' h => ?_⟩
  refine attr_of hb (thn (he.run pins s σ H E H0 ss _ Qx I S T' h) fun u s1 ⟨x, H1, I1, r1, d, S1, e1, n1, q⟩ => ?_)
  cases d with
  | ins C fs =>
    obtain ⟨h1, h2, h3⟩ := q
    obtain ⟨d, l, q⟩ := h3.ok
    obtain ⟨a, dx, vs, rfl, _, ha, hf⟩ := n1.of_ins
    obtain rfl : u = Value.ref a := r1
    obtain ⟨v, lv, nv⟩ := hf.lookup l
    exact getattr_ok I1 ha (T.ins C h1).1 (T.attr C f h2) lv fun u' s2 I2 ru => ⟨v, H1, I2, ru, d, S1, e1, nv, q⟩
  | exc C fs =>
    obtain ⟨h1, h2, h3⟩ := q
    obtain ⟨d, l, q⟩ := h3.ok
    cases n1 with
    | exc0 _ _ => cases l
    | @exc a _ dd vs _ _ _ ha hd hf =>
      obtain rfl : u = Value.ref a := r1
      obtain ⟨v, lv, nv⟩ := hf.lookup l
      obtain ⟨⟨oe, ws, ho, hc, hdd, hdt⟩, _, _⟩ := I1.hok a _ ha
      have hx : ObjOk X.prog X.w H1 s1.heap dd (.xd vs) := I1.hok dd _ hd
      obtain ⟨mA, hns, hr⟩ := hx
      obtain ⟨od, ho', hl⟩ := lookIn_ns hns
      obtain ⟨u, hu, ru⟩ := RelO.some_of (v := v) (o := mA f) (by rw [← lv]; exact hr f)
      have J : PySem.W.InstAt s1.heap a oe C (some od) := ⟨ho, hc, by unfold PySem.W.notCls; rw [hdt] <;> rfl, by rw [hdd]; exact ho'⟩
      have TX := (T.exc C h1).1
      exact HandSPX.exc_get I1.kIn J TX.ga TX.gg TX.exC (PySem.W.findObj_own TX.hdC (T.attr C f h2) rfl (by rw [hl, hu])) (handed_of ru) ⟨v, H1, I1.tok _, ru, d, S1, e1, nv, q⟩
  | _ => exact q.elim
/-! ### isinstance -/
def tyD (P : Gl0) : D → Option Value
  | .non => some (.type "NoneType")
  | .bl _ => some (.type "bool")
  | .int _ => some (.type "int")
  | .str _ => some (.type "str")
  | .tup _ => some (.type "tuple")
  | .lst _ => some (.type "list")
  | .dct _ => some (.type "dict")
  | .ins C _ => some (.ref C)
  | .exc C _ => some (.ref C)
  | _ => none
def okI (P : Gl0) : D → Prop
  | .ins C _ => P.insC C
  | .exc C _ => P.excC C
  | _ => True
theorem kit_d {pins : List (Addr × Obj)} {s : Shared} {v : V} {u t : Value} {d : D} {R : Addr → Prop} (T : Txt X.K P) (I : Inv X pins σ H s) (rx : RelV v u) (n : Den P g R H v d) (ht : tyD P d = some t) (ho : okI P d) :
    ∃ Pk : Heap → Prop, PySem.W.KitX X.K u t Pk ∧ Pk s.heap ∧ u ≠ .builtin "__main__.__loader__#opaque" := by
  cases n with
  | non => cases ht; exact kit_of I rx (.base .non)
  | bl => cases ht; exact kit_of I rx (.base (.bl _))
  | int => cases ht; exact kit_of I rx (.base (.int _))
  | str => cases ht; exact kit_of I rx (.base (.str _))
  | tup _ h _ => cases ht; exact kit_of I rx (.base (.tup h))
  | lst _ h _ => cases ht; exact kit_of I rx (.base (.lst h))
  | dK _ h _ _ => cases ht; exact kit_of I rx (.base (.dK h))
  | dT _ h _ _ => cases ht; exact kit_of I rx (.base (.dT h))
  | ins _ h _ =>
    cases ht
    obtain ⟨c1, c2, c3⟩ := T.ins _ ho
    exact kit_of I rx (.base (.ins h c1 c2 T.og T.ot c3))
  | exc0 _ h =>
    cases ht
    obtain ⟨⟨oe, ws, ho', hc, hdd, hdt⟩, _, _⟩ := I.hok _ _ h
    have TC := (T.exc _ ho).2
    cases (show u = Value.ref _ from rx)
    obtain ⟨cd, hcd, _⟩ := PySem.W.any_some TC.hd
    exact ⟨_, PySem.W.kitx_exc (by rw [hcd]; rfl) TC.hg TC.hk TC.hs TC.ha TC.hn TC.ht TC.hm, (⟨ho', hc, by unfold PySem.W.notCls; rw [hdt] <;> rfl, by rw [hdd]; trivial⟩ : PySem.W.InstAt s.heap _ oe _ none), fun z => nomatch z⟩
  | exc _ _ h hd _ =>
    cases ht
    obtain ⟨⟨oe, ws, ho', hc, hdd, hdt⟩, _, _⟩ := I.hok _ _ h
    have hx : ObjOk X.prog X.w H s.heap _ (.xd _) := I.hok _ _ hd
    obtain ⟨mA, hns, hr⟩ := hx
    obtain ⟨od, ho2, hl⟩ := lookIn_ns hns
    have TC := (T.exc _ ho).2
    cases (show u = Value.ref _ from rx)
    obtain ⟨cd, hcd, _⟩ := PySem.W.any_some TC.hd
    exact ⟨_, PySem.W.kitx_exc (by rw [hcd]; rfl) TC.hg TC.hk TC.hs TC.ha TC.hn TC.ht TC.hm, (⟨ho', hc, by unfold PySem.W.notCls; rw [hdt] <;> rfl, by rw [hdd]; exact ho2⟩ : PySem.W.InstAt s.heap _ oe _ (some od)), fun z => nomatch z⟩
  | clo _ _ _ _ _ => cases ht
  | insA _ _ _ => cases ht
  | box _ => cases ht
  | fn _ => cases ht
def vIsi (P : Gl0) (u : Value) (ta : TD) : TD := fun ss Q Qx => ta ss (fun d => okI P d ∧ ∃ t b, tyD P d = some t ∧ P.isa t u = some b ∧ Q (.bl b)) Qx
/-- a class by its name -/
inductive ClsN (X : Cx) : Str → Value → Prop
  | own {x : Str} {C : Addr} : X.mg x = some (.ref C) → ClsN X x (.ref C)
  | ty {x : Str} {n : String} : X.mg x = none → bootBuiltins x = some (.type n) → x ≠ "__name__" → ClsN X x (.type n)
theorem d_isi {cn : Str} {u : Value} (T : Txt X.K P) (hg : Gl X "isinstance") (hm : X.mg "isinstance" = none) (he : DE X P g e ta) (hgc : Gl X cn) (hc : ClsN X cn u) (hdb : (cn == ("__debug__" : Str)) = false := by decide)
    (h1 : starEach [e, .Name cn p2] X.env = (false, eval e X.env) :: starEach [.Name cn p2] X.env := by rfl) (h2 : starEach [.Name cn p2] X.env = (false, eval (.Name cn p2) X.env) :: starEach [] X.env := by rfl) (hpl : (backTo pos (starEach [.Name cn p2] X.env)).any (·.1) = false := by rfl) :
    DE X P g (.Call (.Name "isinstance" p) [e, .Name cn p2] [] pos) (vIsi P u ta) := by
  obtain ⟨cv, pc, cl⟩ : ∃ cv : V, PE X (.Name cn p2) (tC cv) ∧ ClsV cv u := by
    cases hc with
    | own h => exact ⟨.ref _, pe_glob hgc h rfl hdb, .own _⟩
    | ty h1 h2 h3 => exact ⟨.ty _, pe_bltn hgc h1 h2 rfl h3 hdb, .ty _⟩
  refine ⟨fun pins s σ H E H0 ss Q Qx I S T' h => ?_⟩
  refine wpAny_Call_Name_kw (ld_blt I hg hm (show bootBuiltins "isinstance" = some (.builtin "isinstance") from by first | rfl | decide +kernel) ?_ (by decide) (by decide))
  refine PyProof.Rows.callWith_builtin1 (thn ((pa_cons he.pe (pa_cons pc pa_nil h2) h1).run pos pins s σ H (fun vs H' => ∃ v d, vs = [v, cv] ∧ Stt P g E H0 ss σ H' ∧ Ext g.W H H' ∧ Den P g (Rg g E σ ss) H' v d ∧ okI P d ∧ ∃ t b, tyD P d = some t ∧ P.isa t u = some b ∧ Q (.bl b)) I
    (upE.run S T' h fun v H1 d S1 e1 n1 q1 => ⟨v, d, rfl, S1, e1, n1, q1⟩)) fun us s1 ⟨vs, H1, I1, r1, v, d, ev, S1, e1, n1, ho, t, b, ht, hb, q⟩ => ?_) h1 hpl
  subst ev
  obtain ⟨u1, u2, rfl, ra, rb⟩ := vals2 r1
  have e2 := cl.eq rb
  subst e2
  obtain ⟨Pk, Z, pk, hx⟩ := kit_d T I1 ra n1 ht ho
  exact PySem.W.kia_one Z I1.kIn pk (T.isa _ _ _ hb) hx fun tk => ⟨.bl b, H1, I1.tok tk, rfl, _, S1, e1, .bl, q⟩
/-! ### an exception without own __init__ -/
def vMk0 (C : Addr) (ta : TD) : TD := fun ss Q Qx => ta ss (fun _ => Q (.exc C [])) Qx
theorem d_mk0 {x : Str} {C : Addr} (q : PySem.W.excIn X.K C [.type "ValueError", .type "Exception", .type "BaseException", .type "object"] "ValueError.__new__" = true) (hg : Gl X x) (gC : X.mg x = some (.ref C)) (kC : PySem.W.keepIn X.K (.ref C) = true)
    (he : DE X P g e ta) (hs : starEach [e] X.env = (false, eval e X.env) :: starEach [] X.env := by rfl) (hdb : (x == ("__debug__" : Str)) = false := by decide) : DE X P g (.Call (.Name x p) [e] [] pos) (vMk0 C ta) := by
  refine ⟨fun pins s σ H E H0 ss Q Qx I S T' h => ?_⟩
  refine wpAny_Call_Name_kw (ld_glob I hg gC ?_ hdb)
  refine PySem.W.callWith_K (h₀ := X.base) I.ok.mod.kin kC ?_ hs (by rfl)
  rw [hs]
  show wpAny _ _ (spliced ((false, eval e X.env) :: backTo pos (starEach [] X.env))) _ _ s
  refine Calls.spliced_cons (thn (he.run pins s σ H E H0 ss _ Qx I S T' h) fun u s1 ⟨v, H1, I1, r1, d, S1, e1, n1, q1⟩ => ?_)
  refine Calls.spliced_nil ⟨I1.kIn, ?_⟩
  show wpAny _ _ (call (.ref C) [u]) _ _ _
  obtain ⟨bm, N, nm, qn, bs, hdct, sn, sub, ab, col, dd, k0, k1, k2, k3, k5, mN, hC, hN, hni, T⟩ := exc_obj I1.kIn q
  refine wpAny_call_exc_subT F.excBase_ValueError T hC hN hni (fun h' a hm => ?_) (by show 1 ≤ sizeLine; rw [sizeLine_eq]; omega)
  have hn : H1 a = none := I1.hok.gone hm.new
  obtain ⟨t, ht, _, _⟩ := hm.there
  have hok : ObjOk X.prog X.w (upd H1 a (ExvO a C none)) h' a (ExvO a C none) := ⟨⟨_, _, ht, rfl, rfl, rfl⟩, ⟨_, ht⟩, fun h1 h2 ⟨oe, vs, q1, q2⟩ kk => ⟨oe, vs, kk _ q1, q2⟩⟩
  exact ⟨.ref a, upd H1 a (ExvO a C none), I1.laidN hm.keeps hm.new hn hok, rfl, _, S1.new hn, e1.trans (Ext.new hn), .exc0 (S1.fresh hn) upd_same, q1⟩
end
end DL

set_option maxRecDepth 100000
set_option maxHeartbeats 4000000
namespace DL
open PySem PySem.Spec PyProof.Rows L2 LamX NdefX DLX

section
variable {X : Cx} {P : Gl0} {g : G} {a b c e : Expr} {es : List Expr} {ta tb tc : TD} {tt uu : TB} {tl : TL} {pos p p2 : Pos}
variable {E : Ex} {H0 H H1 H' : Hp} {ss : SS} {σ : St}
/-! ### -x -/
def vNeg (ta : TD) : TD := fun ss Q Qx => ta ss (isIn fun i => Q (.int (-i))) Qx
theorem d_neg (he : DE X P g e ta) : DE X P g (.UnaryOp .USub e pos) (vNeg ta) := DE.of (pe_un un_neg he.pe) fun σ H E H0 ss Q Qx S T h => upE.run S T h fun v H' d S' e' n q => by
  obtain ⟨i, rfl, q⟩ := q.ok
  cases n
  exact ⟨i, rfl, _, S', e', .int, q⟩
/-! ### a, b = x, y -/
def vPar (i j : Nat) (tl : TL) : TSt := fun N ss => tl ss (fun ds => match ds with | [d, e] => N.nx ((ss.set i (.v d)).set j (.v e)) | _ => False) N.ex
theorem s_par {i j : Nat} {x y : Str} {px py pt : Pos} {kt k2 pt2} (hc : X.calm = true) (hN : X.N.Nodup) (ha : DA X P g [a, b] tl) (hi : X.N[i]? = some x := by rfl) (hj : X.N[j]? = some y := by rfl) (hij : i ≠ j := by decide)
    (hx : X.env.scope.names.lookup x = some .local := by rfl) (hy : X.env.scope.names.lookup y = some .local := by rfl)
    (hw : swappedStores [.Tuple [.Name x px, .Name y py] kt pt] (.Tuple [a, b] k2 pt2) X.env = pure (some [x, y]) := by rfl)
    (hs : swapsWithSole [.Tuple [.Name x px, .Name y py] kt pt] (.Tuple [a, b] k2 pt2) pos.line X.env = pure false := by rfl) :
    DS X P g (.Assign [.Tuple [.Name x px, .Name y py] kt pt] (.Tuple [a, b] k2 pt2) pos) (vPar i j tl) :=
  DS.of (ps_par hc hN hi hj hij hx hy ha.pa hw hs) fun σ H E H0 ss N S T h => upA.run S T h fun vs H' ds S' e' ns q => by
    match ds, ns, q with
    | [d, e], ns, q =>
      obtain ⟨v, w, rfl, n1, n2⟩ := ns.two
      exact ⟨v, w, rfl, _, (S'.set i n1).set j (Den.mv (Mv.sub fun x r => Rg_setV (fun d z => by cases z) r) n2), q⟩
/-! ### left out besides, in a part -/
theorem TX.out {D : Addr} {Qx : Err → SS → Prop} (T : TX X P g E H0 Qx) : TX X P g (E.out D) H0 Qx := by
  rcases T with T | T
  · exact .inl T
  · exact .inr (T.imp fun c d σ H ⟨err, ss, S, h1, h2⟩ => ⟨err, ss, S.outE, ErrD.mv (Mv.sub fun a r => (rg_out a).mpr (.inl r)) h1, h2⟩)
/-! ### {k: v, ..} -/
structure DPs (X : Cx) (P : Gl0) (g : G) (pos : Pos) (keys : List (Option Expr)) (values : List Expr) (t : SS → (List D → List D → Prop) → (Err → SS → Prop) → Prop) : Prop where
  ex : ∃ trs, PPs X pos keys values trs ∧ ∀ (σ : St) (H : Hp) (E : Ex) (H0 : Hp) (ss : SS) (Q : List D → List D → Prop) (Qx : Err → SS → Prop) (K : List (V × V) → Hp → Prop), Stt P g E H0 ss σ H → TX X P g E H0 Qx → t ss Q Qx →
    (∀ ps H' ks vs, Stt P g E H0 ss σ H' → Ext g.W H H' → DenL P g (Rg g E σ ss) H' (ps.map (·.1)) ks → DenL P g (Rg g E σ ss) H' (ps.map (·.2)) vs → Q ks vs → K ps H') → tPairs trs σ H K
theorem dps_nil : DPs X P g pos [] [] (fun ss Q _ => Q [] []) := ⟨_, pps_nil, fun σ H E H0 ss Q Qx K S T h k => k [] H [] [] S (Ext.refl _ _) .nil .nil h⟩
theorem dps_cons {ks : List (Option Expr)} {vs : List Expr} {t : SS → (List D → List D → Prop) → (Err → SS → Prop) → Prop} (hk : DE X P g a ta) (hv : DE X P g b tb) (hr : DPs X P g pos ks vs t) :
    DPs X P g pos (some a :: ks) (b :: vs) (fun ss Q Qx => ta ss (fun x => tb ss (fun y => t ss (fun ks vs => Q (x :: ks) (y :: vs)) Qx) Qx) Qx) := by
  obtain ⟨trs, h1, h2⟩ := hr.ex
  refine ⟨_, pps_cons hk.pe hv.pe h1, fun σ H E H0 ss Q Qx K S T h k => upE.run S T h fun x H1 dx S1 e1 n1 q1 => upE.run S1 T q1 fun y H2 dy S2 e2 n2 q2 => ?_⟩
  exact h2 σ H2 E H0 ss _ Qx _ S2 T q2 fun ps H3 ks vs S3 e3 l1 l2 q => k _ H3 _ _ S3 ((e1.trans e2).trans e3) (.cons (den_W e3 (den_W e2 n1)) l1) (.cons (den_W e3 n2) l2) q
theorem merge_nd : ∀ {kvs more : List (Key × V)}, ((kvs ++ more).map (·.1)).Nodup → mergeK kvs more = kvs ++ more
  | kvs, [], _ => by simp [mergeK]
  | kvs, p :: more, h => by
    have hp : valV kvs p.1 = none := by
      cases e : valV kvs p.1 with
      | none => rfl
      | some v =>
        exfalso
        unfold valV at e
        obtain ⟨q, h1, _⟩ := Option.map_eq_some_iff.mp e
        have hm := List.mem_of_find?_eq_some h1
        have he := List.find?_some h1
        have he : q.1 = p.1 := by simpa using he
        rw [List.map_append, List.nodup_append] at h
        exact h.2.2 q.1 (List.mem_map_of_mem hm) p.1 (by simp) he
    show mergeK (putK kvs p.1 p.2) more = _
    rw [putK_new _ hp, merge_nd (by simpa using h)]
    simp
theorem den_keys : ∀ {keys : List Key} {vs : List V} {R : Addr → Prop}, DenL P g R H vs (keys.map keyD) → vs = keys.map kV
  | [], _, _, h => by cases h; rfl
  | k :: ks, _, _, h => by
    cases h with
    | cons h t =>
      rw [den_keys t]
      cases k with
      | inl i => cases h; rfl
      | inr x => cases h; rfl
/-- the keys, as data -/
def dKeys : List D → Option (List Key)
  | [] => some []
  | .int i :: ds => (dKeys ds).map (.inl i :: ·)
  | .str x :: ds => (dKeys ds).map (.inr x :: ·)
  | _ => none
theorem dKeys_ok : ∀ {ds : List D} {ks : List Key}, dKeys ds = some ks → ds = ks.map keyD
  | [], ks, h => by cases h; rfl
  | .int i :: ds, ks, h => by
    simp only [dKeys] at h
    obtain ⟨l, h1, h2⟩ := Option.map_eq_some_iff.mp h
    subst h2
    rw [dKeys_ok h1]
    rfl
  | .str x :: ds, ks, h => by
    simp only [dKeys] at h
    obtain ⟨l, h1, h2⟩ := Option.map_eq_some_iff.mp h
    subst h2
    rw [dKeys_ok h1]
    rfl
  | .non :: _, _, h => by simp only [dKeys] at h; cases h
  | .bl _ :: _, _, h => by simp only [dKeys] at h; cases h
  | .tup _ :: _, _, h => by simp only [dKeys] at h; cases h
  | .lst _ :: _, _, h => by simp only [dKeys] at h; cases h
  | .dct _ :: _, _, h => by simp only [dKeys] at h; cases h
  | .ins _ _ :: _, _, h => by simp only [dKeys] at h; cases h
  | .insA _ _ _ :: _, _, h => by simp only [dKeys] at h; cases h
  | .exc _ _ :: _, _, h => by simp only [dKeys] at h; cases h
  | .clo _ _ :: _, _, h => by simp only [dKeys] at h; cases h
  | .box _ :: _, _, h => by simp only [dKeys] at h; cases h
  | .fn _ :: _, _, h => by simp only [dKeys] at h; cases h
def vDct (t : SS → (List D → List D → Prop) → (Err → SS → Prop) → Prop) : TD := fun ss Q Qx => t ss (fun ks vs => ∃ keys, dKeys ks = some keys ∧ keys.Nodup ∧ keys.length ≤ 15 ∧ Q (.dct (ks.zip vs))) Qx
theorem tabs_mut {Hq : Hp} {q : Addr} {o u : HO} {T : List NTab} (t : TabsN T Hq) (hq : Hq q = some o) (h1 : ∀ ps, o ≠ .tbl ps) (h2 : ∀ φ, o ≠ .ext φ) : TabsN T (upd Hq q u) := fun x hx => by
  obtain ⟨ps, q1, q2, q3⟩ := t x hx
  refine ⟨ps, by rw [upd_ne (fun z => by rw [z, hq] at q1; exact h1 _ (Option.some.inj q1))]; exact q1, q2, fun pos cv hc => ?_⟩
  obtain ⟨c', e1, e2⟩ := q3 pos cv hc
  exact ⟨c', e1, by rw [upd_ne (fun z => by rw [z, hq] at e2; unfold CodeO at e2; exact h2 _ (Option.some.inj e2))]; exact e2⟩
theorem d_disp {keys : List (Option Expr)} {values : List Expr} {t : SS → (List D → List D → Prop) → (Err → SS → Prop) → Prop} (hp : DPs X P g pos keys values t) (hall : keys.all (·.isSome) = true := by rfl) (hl : keys.length = values.length := by rfl) (h0 : keys ≠ [] := by exact fun z => by cases z)
    (h15 : keys.length ≤ 15 := by decide) : DE X P g (.Dict keys values pos) (vDct t) := by
  obtain ⟨trs, h1, h2⟩ := hp.ex
  refine DE.of (pe_disp h1 hall hl h0 h15) fun σ H E H0 ss Q Qx S T h p hp => ?_
  have S1 : Stt P g (E.out p) H0 ss σ (upd H p (.dK [])) := S.outN hp NR.dK
  refine h2 σ _ (E.out p) H0 ss _ Qx _ S1 T.out h fun ps H2 ks vs S2 e2 l1 l2 ⟨keys, hk, nd, hlen, q⟩ => ?_
  have inR : Rg g (E.out p) σ ss p := (rg_out p).mpr (.inr rfl)
  have fp : ¬ Rg g E σ ss p := S.fresh hp
  have nW : ¬ g.W p := fun w => fp (Rg.W w)
  have hp2 : H2 p = some (.dK []) := e2.keep p _ upd_same NT.dK nW
  have ek := dKeys_ok hk
  subst ek
  have e1 := den_keys l1
  have lk : ps.length = keys.length := by
    have := congrArg List.length e1
    simpa using this
  obtain ⟨kvs, hkv⟩ : ∃ kvs : List (Key × V), kvs = keys.zip (ps.map (·.2)) := ⟨_, rfl⟩
  have k1 : kvs.map (·.1) = keys := by rw [hkv]; exact List.map_fst_zip (by simp [lk])
  have k2 : kvs.map (·.2) = ps.map (·.2) := by rw [hkv]; exact List.map_snd_zip (by simp [lk])
  have eps : ps = kvs.map (fun kv => (kV kv.1, kv.2)) := by
    apply List.ext_getElem?
    intro i
    have a1 := congrArg (fun l : List V => l[i]?) e1
    have a2 := congrArg (fun l : List Key => l[i]?) k1
    have a3 := congrArg (fun l : List V => l[i]?) k2
    simp only [List.getElem?_map] at a1 a2 a3 ⊢
    cases x1 : ps[i]? with
    | none =>
      rw [x1] at a3
      cases x2 : kvs[i]? with
      | none => rfl
      | some kv => rw [x2] at a3; cases a3
    | some pr =>
      rw [x1] at a1 a3
      cases x2 : kvs[i]? with
      | none => rw [x2] at a3; cases a3
      | some kv =>
        rw [x2] at a2 a3
        rw [← a2] at a1
        have b1 : pr.1 = kV kv.1 := by simpa using a1
        have b2 : kv.2 = pr.2 := by simpa using a3
        simp [← b1, b2]
  refine ⟨hp2, kvs, eps, by have := congrArg List.length k1; rw [List.length_map] at this; rw [this]; exact hlen, ?_⟩
  have ndk : (([] ++ kvs : List (Key × V)).map (·.1)).Nodup := by rw [List.nil_append, k1]; exact nd
  rw [merge_nd ndk, List.nil_append]
  have eF : Ext g.W H (upd H2 p (.dK kvs)) := by
    have eH : Ext g.W H H2 := (Ext.new hp).trans e2
    exact eH.mut hp
  have mv : Mv g g (Rg g (E.out p) σ ss) (Rg g E σ ss) H2 (upd H2 p (.dK kvs)) := ⟨fun x o n h _ => ⟨by rw [upd_ne (fun z => n (by rw [z]; exact inR))]; exact h, fun r => n ((rg_out x).mpr (.inl r))⟩, fun _ _ b => b⟩
  have sg : SG P g (Rg g E σ ss) (upd H2 p (.dK kvs)) := ⟨tabs_mut S2.sg.tabs hp2 (fun _ z => by cases z) (fun _ z => by cases z), g.hinv _ _ (fun x o w h => by rw [upd_ne (fun z => nW (by rw [← z]; exact w))]; exact h) S2.sg.inv, fun x r => by
    obtain ⟨o, q, n⟩ := S2.sg.trk x ((rg_out x).mpr (.inl r))
    exact ⟨o, by rw [upd_ne (fun z => fp (by rw [← z]; exact r))]; exact q, n⟩, pinW (fun a w => Rg.W w) eF S.sg.pin⟩
  refine ⟨_, S.ext eF sg, eF, ?_, q⟩
  have := Den.dK (P := P) (g := g) (R := Rg g E σ ss) (H := upd H2 p (.dK kvs)) (a := p) (kvs := kvs) (l := vs) fp upd_same (by rw [k2]; exact DenL.mv mv l2) (by rw [k1]; exact nd)
  have em : (kvs.map fun p => keyD p.1) = keys.map keyD := by rw [← k1, List.map_map]; rfl
  rw [em] at this
  exact this
theorem d_dnew : DE X P g (.Dict [] [] pos) (vC (.dct [])) := DE.of pe_dnewK fun σ H E H0 ss Q Qx S T h p hp =>
  ⟨_, S.new hp, Ext.new hp, .dK (kvs := []) (l := []) (S.fresh hp) upd_same .nil .nil, h⟩
/-! ### x in l -/
def rMem (f : Bool → Bool) : RD := fun x y Q => match toPy x, toPy y with
  | some p, some (.list qs) => SeqAt.shaped p = true ∧ SeqAt.shaped (.list qs) = true ∧ Q (.bl (f (qs.any fun z => PyData.eqv z p)))
  | _, _ => False
theorem o_in (hu : X.A.units + 65 < cLine) : OpD X P g (compareOp .In) (rMem id) := by
  refine ⟨_, op_inD hu, fun σ H E H0 ss x y dx dy Q K S nx ny h kk => ?_⟩
  unfold rMem at h
  split at h
  · rename_i p q e1 e2
    exact ⟨p, q, toPy_dp _ e1 nx, toPy_dp _ e2 ny, h.1, h.2.1, kk _ _ (.now S .bl h.2.2)⟩
  · exact h.elim
theorem o_notIn (hu : X.A.units + 65 < cLine) : OpD X P g (compareOp .NotIn) (rMem not) := by
  refine ⟨_, op_notInD hu, fun σ H E H0 ss x y dx dy Q K S nx ny h kk => ?_⟩
  unfold rMem at h
  split at h
  · rename_i p q e1 e2
    exact ⟨p, q, toPy_dp _ e1 nx, toPy_dp _ e2 ny, h.1, h.2.1, kk _ _ (.now S .bl h.2.2)⟩
  · exact h.elim
/-! ### enumerate(l) -/
def enumD (l : List D) : List D := (l.zipIdx).map fun p => D.tup [.int (p.2 : Nat), p.1]
theorem enumD_len (l : List D) : (enumD l).length = l.length := by simp [enumD]
theorem enumD_get {l : List D} {i : Nat} {d : D} (h : (enumD l)[i]? = some d) : ∃ x, l[i]? = some x ∧ d = .tup [.int (i : Nat), x] := by
  unfold enumD at h
  rw [List.getElem?_map, List.getElem?_zipIdx] at h
  obtain ⟨p, h1, h2⟩ := Option.map_eq_some_iff.mp h
  obtain ⟨x, h3, h4⟩ := Option.map_eq_some_iff.mp h1
  subst h4
  refine ⟨x, h3, ?_⟩
  rw [← h2]
  simp
theorem src_enum {K : PySem.W.Frag} {a : Addr} {vs : List V} {l : List D} : Src P g (Ite K a) (enumD l) (fun H R => H a = some (.lst vs) ∧ ¬ R a ∧ DenL P g R H vs l) where
  hz := fun H H' R R' m ⟨h1, h2, h3⟩ => ⟨(m a _ h2 h1 NT.lst).1, (m a _ h2 h1 NT.lst).2, DenL.mv (mvR m) h3⟩
  go := fun i H R _ ⟨h1, h2, h3⟩ hi => by
    rw [enumD_len] at hi
    exact ⟨vs, vs[i]'(by rw [h3.length]; exact hi), SqL.of h1, List.getElem?_eq_getElem _⟩
  yld := fun i H R x H' d _ ⟨h1, h2, h3⟩ hr hd hy => by
    obtain ⟨T, y, rfl, hT, rfl, hy⟩ := hy
    obtain ⟨dx, q1, rfl⟩ := enumD_get hd
    obtain ⟨v, q2, q3⟩ := h3.get q1
    have := hy vs (SqL.of h1)
    rw [q2] at this
    cases this
    have ne : ∀ b o, H b = some o → upd H T (.tup [.int (i : Nat), y]) b = some o := same_new hT
    refine ⟨ne, .tup (fun r => hr T r hT) upd_same (.cons .int (.cons (Den.mv ⟨fun b o n h _ => ⟨ne b o h, n⟩, fun _ _ b => b⟩ q3) .nil))⟩
  stop := fun i H R _ ⟨h1, h2, h3⟩ e => ⟨vs, SqL.of h1, by rw [h3.length, e, enumD_len]; exact Nat.le_refl _⟩
def vEnum (tl : TL) : TL := fun ss Q Qx => tl ss (fun ds => match ds with | [.lst l] => Q (enumD l) | _ => False) Qx
theorem i_enum {elts : List Expr} {kk : Nat} {tpos : Pos} (hg : Gl X "enumerate") (hm : X.mg "enumerate" = none) (ha : DA X P g [e] tl) (hs : starEach [e] X.env = [(false, eval e X.env)] := by rfl) : DI X P g (.Tuple elts kk tpos) (.Call (.Name "enumerate" p) [e] [] pos) (vEnum tl) :=
  ⟨_, pi_enum hg hm ha.pa hs, fun σ H E H0 ss Q Qx R S T h k => upA.run S T h fun vs H1 ds S1 e1 ns q => by
    match ds, ns, q with
    | [.lst l], ns, q =>
      obtain ⟨v, rfl, n⟩ := ns.one
      obtain ⟨a, ws, rfl, nr, ha, hl⟩ := n.of_lst
      exact ⟨a, ws, rfl, SqL.of ha, k _ H1 (enumD l) _ S1 e1 src_enum ⟨ha, nr, hl⟩ q⟩⟩
end
end DL

set_option maxRecDepth 100000
set_option maxHeartbeats 4000000
namespace DL
open PySem PySem.Spec PyProof.Rows L2 LamX NdefX DLX

/-! ### repr -/
mutual
def toPd : D → Option PyData
  | .non => some .none
  | .bl b => some (.bool b)
  | .int i => some (.int i)
  | .str x => some (.str x)
  | .lst l => (toPdL l).map .list
  | .tup l => (toPdL l).map .tuple
  | .dct l => (toPdK l).map .dict
  | .ins _ _ => none
  | .insA _ _ _ => none
  | .exc _ _ => none
  | .clo _ _ => none
  | .box _ => none
  | .fn _ => none
def toPdL : List D → Option (List PyData)
  | [] => some []
  | d :: ds => match toPd d, toPdL ds with
    | some p, some ps => some (p :: ps)
    | _, _ => none
def toPdK : List (D × D) → Option (List (PyData × PyData))
  | [] => some []
  | d :: ds => match toPdP d, toPdK ds with
    | some p, some ps => some (p :: ps)
    | _, _ => none
def toPdP : D × D → Option (PyData × PyData)
  | (k, v) => match k, toPd v with
    | .int i, some p => some (.int i, p)
    | .str x, some p => some (.str x, p)
    | _, _ => none
end
mutual
def noList : PyData → Bool
  | .list _ => false
  | .tuple l => noListL l
  | .dict kvs => noListK kvs
  | _ => true
def noListL : List PyData → Bool
  | [] => true
  | x :: xs => noList x && noListL xs
def noListK : List (PyData × PyData) → Bool
  | [] => true
  | (k, v) :: xs => noList v && noListK xs
end
section
variable {X : Cx} {P : Gl0} {g : G} {R : Addr → Prop} {H : Hp} {pins : List (Addr × Obj)} {σ : St} {s : Shared}
theorem keys_read {pr : Program} {w : World} {h : Heap} : ∀ {es : List DictEntry} {kvs : List (Key × Value)}, Pairs (mixKind pr w) es kvs → ReadsAll h (es.map (·.key)) (kvs.map fun kv => match kv.1 with | .inl i => PyData.int i | .inr x => PyData.str x) [] ∧ es.map (·.val) = kvs.map (·.2) := by
  intro es kvs h
  induction h with
  | nil => exact ⟨.nil, rfl⟩
  | @cons e kv es kvs h1 h2 _ ih =>
    obtain ⟨k, v⟩ := kv
    refine ⟨?_, by rw [List.map_cons, List.map_cons, h2, ih.2]⟩
    rw [List.map_cons, List.map_cons]
    rcases keyIs_shape (show keyIs k e.key = true from h1) with ⟨i, t, e1, e2⟩ | ⟨x, t, e1, e2⟩
    · have e1 : k = .inl i := e1
      subst e1
      rw [e2]
      exact ReadsAll.cons (as := []) (.int i t) ih.1
    · have e1 : k = .inr x := e1
      subst e1
      rw [e2]
      exact ReadsAll.cons (as := []) (.str x t) ih.1
def keyPd : Key → PyData
  | .inl i => .int i
  | .inr x => .str x
theorem toPdK_ok : ∀ {ks : List Key} {l : List D} {ps : List (PyData × PyData)}, ks.length = l.length → toPdK ((ks.map keyD).zip l) = some ps → ∃ qs, toPdL l = some qs ∧ ps.map (·.1) = ks.map keyPd ∧ ps.map (·.2) = qs
  | [], [], ps, _, h => by
    simp only [List.map_nil, List.zip_nil_left, toPdK] at h
    cases h
    exact ⟨[], rfl, rfl, rfl⟩
  | k :: ks, d :: l, ps, hl, h => by
    simp only [List.map_cons, List.zip_cons_cons, toPdK] at h
    split at h
    · rename_i p qs h1 h2
      cases h
      obtain ⟨q, e1, e2, e3⟩ := toPdK_ok (by simpa using hl) h2
      simp only [toPdP] at h1
      split at h1
      · rename_i i p' e4 e5
        cases h1
        refine ⟨p' :: q, by simp only [toPdL]; rw [e5, e1], ?_, by rw [List.map_cons, e3]⟩
        rw [List.map_cons, List.map_cons, e2]
        cases k with
        | inl j => cases e4; rfl
        | inr x => cases e4
      · rename_i i p' e4 e5
        cases h1
        refine ⟨p' :: q, by simp only [toPdL]; rw [e5, e1], ?_, by rw [List.map_cons, e3]⟩
        rw [List.map_cons, List.map_cons, e2]
        cases k with
        | inl j => cases e4
        | inr x => cases e4; rfl
      · cases h1
    · cases h
  | [], d :: l, ps, hl, h => by simp at hl
  | k :: ks, [], ps, hl, h => by simp at hl
theorem noListK_ok : ∀ {kvs : List (PyData × PyData)}, noListK kvs = true → noListL (kvs.map (·.2)) = true
  | [], _ => rfl
  | (k, v) :: r, h => by
    simp only [noListK, Bool.and_eq_true] at h
    simp only [List.map_cons, noListL, Bool.and_eq_true]
    exact ⟨h.1, noListK_ok h.2⟩
theorem kv_vals : ∀ {kvs : List (Key × V)} {vs : List (Key × Value)}, KV kvs vs → Vals (kvs.map (·.2)) (vs.map (·.2))
  | [], [], _ => .nil
  | _ :: _, _ :: _, .cons h t => .cons h.2 (kv_vals t)
mutual
theorem den_rd (I : Inv X pins σ H s) : ∀ {v : V} {d : D}, Den P g R H v d → ∀ {p : PyData} {u : Value}, toPd d = some p → RelV v u → ∃ as, Reads s.heap u p as ∧ (noList p = true → sysModules ∉ as)
  | _, _, .non, p, u, h, r => by
    simp only [toPd] at h; cases h
    cases (show u = Value.none from r)
    exact ⟨_, .none, fun _ z => by cases z⟩
  | _, _, .bl (b := b), p, u, h, r => by
    simp only [toPd] at h; cases h
    cases (show u = Value.bool b from r)
    exact ⟨_, .bool b, fun _ z => by cases z⟩
  | _, _, .int (i := i), p, u, h, r => by
    simp only [toPd] at h; cases h
    obtain ⟨t, q⟩ := (show ∃ t, u = Value.int i t from r)
    subst q
    exact ⟨_, .int i t, fun _ z => by cases z⟩
  | _, _, .str (x := x), p, u, h, r => by
    simp only [toPd] at h; cases h
    obtain ⟨t, q⟩ := (show ∃ t, u = Value.str x t from r)
    subst q
    exact ⟨_, .str x t, fun _ z => by cases z⟩
  | _, _, .lst (a := a) (vs := vs) _ ha hl, p, u, h, r => by
    simp only [toPd] at h
    obtain ⟨ps, h1, h2⟩ := Option.map_eq_some_iff.mp h
    subst h2
    obtain rfl : u = Value.ref a := r
    obtain ⟨_, us, n, rv, ho⟩ := (show ObjOk X.prog X.w H s.heap a (.lst vs) from I.hok a _ ha)
    obtain ⟨as, q, _⟩ := den_rdL I hl h1 rv
    exact ⟨_, .list ho rfl rfl (by simpa using q), fun z => by cases z⟩
  | _, _, .tup (a := a) (vs := vs) _ ha hl, p, u, h, r => by
    simp only [toPd] at h
    obtain ⟨ps, h1, h2⟩ := Option.map_eq_some_iff.mp h
    subst h2
    obtain rfl : u = Value.ref a := r
    obtain ⟨_, us, rv, o, ho, hc, n, hd⟩ := (show ObjOk X.prog X.w H s.heap a (.tup vs) from I.hok a _ ha)
    obtain ⟨as, q, q2⟩ := den_rdL I hl h1 rv
    exact ⟨_, .tuple ho hc hd (by simpa using q), fun z => q2 (by simpa only [noList] using z)⟩
  | _, _, .dK (a := a) (kvs := kvs) (l := l) _ ha hl nd, p, u, h, r => by
    simp only [toPd] at h
    obtain ⟨ps, h1, h2⟩ := Option.map_eq_some_iff.mp h
    subst h2
    obtain rfl : u = Value.ref a := r
    obtain ⟨_, hs, vs, kv, o, es, ep, ho, hx, hd, _, hp, _⟩ := dk_of I.hok ha
    have len : kvs.length = l.length := by rw [← hl.length, List.length_map]
    have e0 : (kvs.map fun p => keyD p.1) = (kvs.map (·.1)).map keyD := by rw [List.map_map]; rfl
    rw [e0] at h1
    obtain ⟨qs, e1, e2, e3⟩ := toPdK_ok (by rw [List.length_map]; exact len) h1
    obtain ⟨k1, k2⟩ := keys_read (h := s.heap) hp
    have kk := kv.keys
    obtain ⟨as, q, q2⟩ := den_rdL I hl e1 (kv_vals kv)
    refine ⟨a :: [] ++ as, .dict ho hx.1 hd ?_ ?_, fun z => ?_⟩
    · rw [e2, kk]
      have ek : (vs.map (·.1)).map keyPd = vs.map fun kv => (match kv.1 with | .inl i => PyData.int i | .inr x => PyData.str x) := by
        rw [List.map_map]
        apply List.map_congr_left
        intro x _
        obtain ⟨x1, x2⟩ := x
        cases x1 <;> rfl
      rw [ek]
      exact k1
    · rw [k2, e3]
      exact q
    · have z' := q2 (by rw [← e3]; exact noListK_ok (by simpa only [noList] using z))
      intro m
      rcases List.mem_append.mp m with m | m
      · have : sysModules = a := by simpa using m
        rw [this] at hs
        simp at hs
      · exact z' m
  | _, _, .dT (a := a) (kvs := []) (l := l) _ ha hl nd, p, u, h, r => by
    simp only [toPd, List.map_nil, List.zip_nil_left, toPdK, Option.map_some] at h
    cases h
    obtain rfl : u = Value.ref a := r
    obtain ⟨_, hs, xs, kt, o, es, ep, ho, hx, hd, hes, _⟩ := dt_of I.hok ha
    cases kt
    refine ⟨a :: [] ++ [], .dict ho hx.1 hd ?_ ?_, fun z m => ?_⟩
    · rw [hes]; exact .nil
    · rw [hes]; exact .nil
    · have : sysModules = a := by simpa using m
      rw [this] at hs
      simp at hs
  | _, _, .dT (a := a) (kvs := kv :: kvs) (l := []) _ ha hl nd, p, u, h, r => by cases hl
  | _, _, .dT (a := a) (kvs := kv :: kvs) (l := d :: l) _ ha hl nd, p, u, h, r => by simp [toPd, toPdK, toPdP] at h
  | _, _, .ins _ _ _, p, u, h, r => by simp only [toPd] at h; cases h
  | _, _, .insA _ _ _, p, u, h, r => by simp only [toPd] at h; cases h
  | _, _, .exc0 _ _, p, u, h, r => by simp only [toPd] at h; cases h
  | _, _, .exc _ _ _ _ _, p, u, h, r => by simp only [toPd] at h; cases h
  | _, _, .clo _ _ _ _ _, p, u, h, r => by simp only [toPd] at h; cases h
  | _, _, .box _, p, u, h, r => by simp only [toPd] at h; cases h
  | _, _, .fn _, p, u, h, r => by simp only [toPd] at h; cases h
theorem den_rdL (I : Inv X pins σ H s) : ∀ {vs : List V} {ds : List D}, DenL P g R H vs ds → ∀ {ps : List PyData} {us : List Value}, toPdL ds = some ps → Vals vs us → ∃ as, ReadsAll s.heap us ps as ∧ (noListL ps = true → sysModules ∉ as)
  | _, _, .nil, ps, us, h, r => by
    simp only [toPdL] at h; cases h; cases r
    exact ⟨_, .nil, fun _ z => by cases z⟩
  | _, _, .cons n1 n2, ps, us, h, r => by
    simp only [toPdL] at h
    split at h
    · rename_i p qs h1 h2
      cases h
      cases r with
      | cons r1 r2 =>
        obtain ⟨as, a1, a2⟩ := den_rd I n1 h1 r1
        obtain ⟨bs, b1, b2⟩ := den_rdL I n2 h2 r2
        refine ⟨_, .cons a1 b1, fun z m => ?_⟩
        simp only [noListL, Bool.and_eq_true] at z
        rcases List.mem_append.mp m with m | m
        · exact a2 z.1 m
        · exact b2 z.2 m
    · cases h
end
end

section
variable {X : Cx} {P : Gl0} {g : G} {e : Expr} {es : List Expr} {ta : TD} {tl : TL} {pos p p2 : Pos}
/-- repr([..]) -/
def vRepL (tl : TL) : TD := fun ss Q Qx => tl ss (fun ds => ds.length ≤ 100000 ∧ ∃ ps, toPdL ds = some ps ∧ (PyData.list ps).showable = true ∧ (PyData.hasDictAll ps = false ∨ noListL ps = true) ∧ (PyData.list ps).depth ≤ 60 ∧ (PyData.list ps).shown.length ≤ sizeLine ∧ Q (.str (PyData.list ps).shown)) Qx
theorem d_repL (hr : Room 1 X.A) (hgd : X.A.guards = some []) (hg : Gl X "repr") (hm : X.mg "repr" = none) (ha : DA X P g es tl)
    (h1 : starEach [.List es p2] X.env = (false, eval (.List es p2) X.env) :: starEach [] X.env := by rfl) : DE X P g (.Call (.Name "repr" p) [.List es p2] [] pos) (vRepL tl) := by
  refine ⟨fun pins s σ H E H0 ss Q Qx I S T h => ?_⟩
  refine wpAny_Call_Name_kw (ld_blt I hg hm (show bootBuiltins "repr" = some (.builtin "repr") from by first | rfl | decide +kernel) ?_ (by decide) (by decide))
  refine PyProof.Rows.callWith_builtin1 ?_ h1 rfl
  rw [h1]
  show wpAny _ _ (spliced ((false, eval (.List es p2) X.env) :: backTo pos (starEach [] X.env))) _ _ s
  refine Calls.spliced_cons ?_
  refine wpAny_List_spliced (thn (ha.run _ pins s σ H E H0 ss _ Qx I S T h) fun us s1 ⟨xs, H1, I1, r, ds, S1, e1, n1, hlen, ps, hps, hsh, hdl, hdep, hsz, q⟩ => ⟨?_, ?_⟩)
  · rw [← r.length, n1.length]
    exact line5 hlen
  · refine Calls.spliced_nil ?_
    have hf : H1 s1.heap.objs.size = none := I1.hok.fresh (Nat.le_refl _)
    have zl : xs.length ≤ sizeLine := by rw [n1.length]; exact line5 hlen
    have I2 : Inv X pins σ (upd H1 s1.heap.objs.size (.lst xs)) { s1 with heap := s1.heap.push { cls := .type "list", data := .seq us.toArray } } := I1.laid (t' := s1.toks) (fun b u e => Heap.get?_push_of_some _ e) (Nat.le_refl _) ⟨zl, us, 0, r, Heap.get?_push_size _ rfl⟩
    have S2 := S1.new (o := .lst xs) hf
    have e2 : Ext g.W H1 (upd H1 s1.heap.objs.size (.lst xs)) := Ext.new hf
    obtain ⟨as, ra, rb⟩ := den_rdL I2 (denL_W e2 n1) hps r
    have rd : Reads (s1.heap.push { cls := .type "list", data := .seq us.toArray }) (.ref s1.heap.objs.size) (.list ps) (s1.heap.objs.size :: as) := .list (Heap.get?_push_size _ rfl) rfl rfl (by simpa using ra)
    have hu := hr.units
    refine repr_of_reads' (s := { s1 with heap := s1.heap.push { cls := .type "list", data := .seq us.toArray } }) rd hsh (fun hd m => ?_) hgd (by omega) (fun _ _ z => z) (fun h' u tk k => ?_) hsz
    · rcases List.mem_cons.mp m with m | m
      · exact absurd (show sysModules < s1.heap.objs.size from I1.big) (by rw [m]; exact Nat.lt_irrefl _)
      · rcases hdl with z | z
        · rw [show (PyData.list ps).hasDict = PyData.hasDictAll ps from by simp only [PyData.hasDict], z] at hd
          cases hd
        · exact rb z m
    · exact ⟨.str _, _, I2.kept (t' := tk) k, ⟨_, rfl⟩, _, S2, e1.trans e2, .str, q⟩
end
end DL

set_option maxRecDepth 100000
set_option maxHeartbeats 4000000
namespace DL
open PySem PySem.Spec PyProof.Rows L2 LamX NdefX DLX

/-! ### the draw: a dict with two lists -/
def dkv (L C : Addr) (rest turn : Int) : List (Key × V) := [(.inr "large", .ref L), (.inr "rest", .int rest), (.inr "cells", .ref C), (.inr "turn", .int turn)]
structure Scr where
  K : PySem.W.Frag
  a : Addr
  ns : List Int
  c : Prop
structure DrawIn (z : Scr) (r L C : Addr) (cells : List Int) (H : Hp) : Prop where
  rl : r ≠ L
  rc : r ≠ C
  lc : L ≠ C
  d : ∃ rest turn, H r = some (.dK (dkv L C rest turn))
  l : ∃ ls : List Int, H L = some (.lst (ls.map V.int)) ∧ ls.length ≤ 100
  c : H C = some (.lst (cells.map V.int)) ∧ cells.length ≤ 100
  s1 : SqL z.K H z.a (z.ns.map V.int) ∧ (z.c ∨ ∀ H', SqL z.K H' z.a (z.ns.map V.int))
  s2 : z.c → z.a ≠ r ∧ z.a ≠ L ∧ z.a ≠ C
  s3 : z.ns.length ≤ 63
/-- the script stands as long as its object does -/
theorem scr_keep {K : PySem.W.Frag} {a : Addr} {xs : List V} {c : Prop} {H H' : Hp} (h : SqL K H a xs ∧ (c ∨ ∀ H', SqL K H' a xs)) (k : c → ∀ o, H a = some o → H' a = some o) : SqL K H' a xs ∧ (c ∨ ∀ H', SqL K H' a xs) := by
  obtain ⟨h1, h2⟩ := h
  rcases h2 with h2 | h2
  · refine ⟨?_, .inl h2⟩
    rcases h1 with (h1 | ⟨o, h1⟩) | h1
    · exact .inl (.inl (k h2 _ h1))
    · exact .inl (.inr ⟨o, k h2 _ h1⟩)
    · exact .inr h1
  · exact ⟨h2 H', .inr h2⟩
def drawB (z : Scr) (r L C : Addr) (cells : List Int) : B where
  W := fun a => (a = r ∨ a = L ∨ a = C) ∨ (a = z.a ∧ z.c)
  inv := DrawIn z r L C cells
  bx := fun n a => (n = 0 ∧ a = r) ∨ (n = 7 ∧ a = z.a)
  hinv := fun H H' k h => ⟨h.rl, h.rc, h.lc, let ⟨x, y, e⟩ := h.d; ⟨x, y, k _ _ (.inl (.inl rfl)) e⟩, let ⟨x, e, z⟩ := h.l; ⟨x, k _ _ (.inl (.inr (.inl rfl))) e, z⟩, ⟨k _ _ (.inl (.inr (.inr rfl))) h.c.1, h.c.2⟩, scr_keep h.s1 fun hc o e => k _ _ (.inr ⟨rfl, hc⟩) e, h.s2, h.s3⟩
def gpD (K : PySem.W.Frag) (b : B) : Prop := ∃ z r L C cells, z.K = K ∧ b = drawB z r L C cells
theorem dkv_large {L C : Addr} {x y : Int} : valV (dkv L C x y) (.inr "large") = some (.ref L) := by first | rfl | simp [dkv, valV]
theorem dkv_rest {L C : Addr} {x y : Int} : valV (dkv L C x y) (.inr "rest") = some (.int x) := by first | rfl | simp [dkv, valV]
theorem dkv_cells {L C : Addr} {x y : Int} : valV (dkv L C x y) (.inr "cells") = some (.ref C) := by first | rfl | simp [dkv, valV]
theorem dkv_turn {L C : Addr} {x y : Int} : valV (dkv L C x y) (.inr "turn") = some (.int y) := by first | rfl | simp [dkv, valV]
theorem dkv_putR {L C : Addr} {x y z : Int} : putK (dkv L C x y) (.inr "rest") (.int z) = dkv L C z y := by first | rfl | simp [dkv, putK]
theorem dkv_putT {L C : Addr} {x y z : Int} : putK (dkv L C x y) (.inr "turn") (.int z) = dkv L C x z := by first | rfl | simp [dkv, putK]
section
variable {X : Cx} {P : Gl0} {g : G} {a b c e tg : Expr} {es : List Expr} {ta tb tc : TD} {tt uu : TB} {tl : TL} {pos p p2 p3 p4 p5 p6 p7 : Pos}
variable {E : Ex} {H0 H H1 H' : Hp} {ss : SS} {σ : St}
theorem draw_at {K : PySem.W.Frag} {i : Nat} (hgp : gpD K g.toB) (S : Stt P g E H0 ss σ H) (hi : ss[i]? = some (.v (.box 0))) : ∃ z r L C cells, g.toB = drawB z r L C cells ∧ σ[i]? = some (some (.ref r)) ∧ DrawIn z r L C cells H := by
  obtain ⟨z, r, L, C, cells, eK, e⟩ := hgp
  obtain ⟨v, h1, h2⟩ := S.val i _ hi
  have hb : g.bx = fun n a => (n = 0 ∧ a = r) ∨ (n = 7 ∧ a = z.a) := congrArg B.bx e
  have hin : g.inv = DrawIn z r L C cells := congrArg B.inv e
  have hinv := S.sg.inv
  rw [hin] at hinv
  cases h2 with
  | box q =>
    rw [hb] at q
    rcases q with ⟨_, rfl⟩ | ⟨q, _⟩
    · exact ⟨z, _, L, C, cells, e, h1, hinv⟩
    · cases q
/-- an object of the draw changes -/
theorem Stt.drw {z : Scr} {r L C q : Addr} {cells : List Int} {o u : HO} (e : g.toB = drawB z r L C cells) (S : Stt P g E H0 ss σ H) (hq : q = r ∨ q = L ∨ q = C) (ho : H q = some o) (h1 : ∀ ps, o ≠ .tbl ps) (h2 : ∀ φ, o ≠ .ext φ) (nu : NR u) (inv : DrawIn z r L C cells (upd H q u)) : Stt P g E H0 ss σ (upd H q u) ∧ Ext g.W H (upd H q u) := by
  have hW : g.W q := by
    have : g.W = fun a => (a = r ∨ a = L ∨ a = C) ∨ (a = z.a ∧ z.c) := congrArg B.W e
    rw [this]; exact .inl hq
  have ex : Ext g.W H (upd H q u) := ⟨fun x v hx _ nw => by rw [upd_ne (fun z => nw (by rw [z]; exact hW))]; exact hx, fun x => gone_upd⟩
  have hin : g.inv (upd H q u) := by
    have : g.inv = DrawIn z r L C cells := congrArg B.inv e
    rw [this]; exact inv
  refine ⟨S.ext ex ⟨tabs_mut S.sg.tabs ho h1 h2, hin, fun x rx => ?_, pinW (fun a w => Rg.W w) ex S.sg.pin⟩, ex⟩
  by_cases z : x = q
  · exact ⟨u, by rw [z, upd_same], nu⟩
  · obtain ⟨v, q1, n⟩ := S.sg.trk x rx
    exact ⟨v, by rw [upd_ne z]; exact q1, n⟩
theorem DrawIn.setR {z : Scr} {r L C : Addr} {cells : List Int} {rest turn : Int} (h : DrawIn z r L C cells H) : DrawIn z r L C cells (upd H r (.dK (dkv L C rest turn))) :=
  ⟨h.rl, h.rc, h.lc, ⟨rest, turn, upd_same⟩, let ⟨x, e, z⟩ := h.l; ⟨x, by rw [upd_ne h.rl.symm]; exact e, z⟩, ⟨by rw [upd_ne h.rc.symm]; exact h.c.1, h.c.2⟩, scr_keep h.s1 fun hc o e => by rw [upd_ne (h.s2 hc).1]; exact e, h.s2, h.s3⟩
theorem DrawIn.setL {z : Scr} {r L C : Addr} {cells ls : List Int} (h : DrawIn z r L C cells H) (hl : ls.length ≤ 100) : DrawIn z r L C cells (upd H L (.lst (ls.map V.int))) :=
  ⟨h.rl, h.rc, h.lc, let ⟨x, y, e⟩ := h.d; ⟨x, y, by rw [upd_ne h.rl]; exact e⟩, ⟨ls, upd_same, hl⟩, ⟨by rw [upd_ne h.lc.symm]; exact h.c.1, h.c.2⟩, scr_keep h.s1 fun hc o e => by rw [upd_ne (h.s2 hc).2.1]; exact e, h.s2, h.s3⟩
/-- draw[k], a number -/
def NumK (k : Str) : Prop := (∀ L C x y, ∃ z, valV (dkv L C x y) (.inr k) = some (.int z)) ∧ ∀ L C x y z, ∃ x' y', putK (dkv L C x y) (.inr k) (.int z) = dkv L C x' y'
theorem num_rest : NumK "rest" := ⟨fun L C x y => ⟨x, dkv_rest⟩, fun L C x y z => ⟨z, y, dkv_putR⟩⟩
theorem num_turn : NumK "turn" := ⟨fun L C x y => ⟨y, dkv_turn⟩, fun L C x y z => ⟨x, z, dkv_putT⟩⟩
def vBoxI (i : Nat) : TD := fun ss Q _ => ss[i]? = some (.v (.box 0)) ∧ ∀ z : Int, Q (.int z)
theorem d_boxI (i : Nat) {x k : Str} {j : Nat} (hgp : gpD X.K g.toB) (hk : NumK k) (hu : X.A.units + 64 < cLine) (hN : X.N[i]? = some x := by rfl) (hv : Vis X.env.scope x := by first | exact Or.inl rfl | exact Or.inr (Or.inl rfl) | exact Or.inr (Or.inr rfl)) (hd : (x == ("__debug__" : Str)) = false := by decide) (hcd : (x == ("__classdict__" : Str)) = false := by decide)
    (hs : NoSl (.Constant (.str k) j p2) := by exact fun _ _ => rfl) : DE X P g (.Subscript (.Name x p) (.Constant (.str k) j p2) pos) (vBoxI i) :=
  DE.of (pe_dget (by omega) (pe_var hN hv hd hcd) pe_str hs) fun σ H E H0 ss Q Qx S T h => by
    obtain ⟨hi, hq⟩ := h
    obtain ⟨zz, r, L, C, cells, e, h1, D⟩ := draw_at hgp S hi
    obtain ⟨x, y, hr⟩ := D.d
    obtain ⟨z, hz⟩ := hk.1 L C x y
    exact ⟨_, h1, r, .int z, rfl, by have := DGet.k (k := .inr k) hr; rw [hz] at this; exact this, _, S, Ext.refl _ _, .int, hq z⟩
/-- draw[k] = e -/
def vBoxS (i : Nat) (ta : TD) : TSt := fun N ss => ss[i]? = some (.v (.box 0)) ∧ ta ss (isIn fun _ => N.nx ss) N.ex
theorem s_boxS (i : Nat) {x k : Str} {j : Nat} (hgp : gpD X.K g.toB) (hk : NumK k) (hu : X.A.units + 64 < cLine) (he : DE X P g e ta) (hN : X.N[i]? = some x := by rfl) (hv : Vis X.env.scope x := by first | exact Or.inl rfl | exact Or.inr (Or.inl rfl) | exact Or.inr (Or.inr rfl)) (hd : (x == ("__debug__" : Str)) = false := by decide) (hcd : (x == ("__classdict__" : Str)) = false := by decide)
    (hs : swapsWith e (some (.Subscript (.Name x p) (.Constant (.str k) j p2) p3)) pos.line X.env = pure false := by rfl) : DS X P g (.Assign [.Subscript (.Name x p) (.Constant (.str k) j p2) p3] e pos) (vBoxS i ta) :=
  DS.of (ps_dput (by omega) (pe_var hN hv hd hcd) pe_str he.pe hs) fun σ H E H0 ss N S T h => by
    obtain ⟨hi, ht⟩ := h
    refine upE.run S T ht fun v H1 d S1 e1 n1 q1 => ?_
    obtain ⟨z, rfl, q1⟩ := q1.ok
    cases n1
    obtain ⟨zz, r, L, C, cells, e, h1, D⟩ := draw_at hgp S1 hi
    obtain ⟨x, y, hr⟩ := D.d
    obtain ⟨x', y', hp⟩ := hk.2 L C x y z
    refine ⟨_, h1, r, upd H1 r (.dK (dkv L C x' y')), rfl, by have := DPut.k (k := .inr k) (v := .int z) hr (show 4 < sizeLine from by decide); rw [hp] at this; exact this, ?_⟩
    exact ⟨ss, (S1.drw e (.inl rfl) hr (fun _ z => by cases z) (fun _ z => by cases z) NR.dK D.setR).1, q1⟩
/-- for x in draw["cells"] -/
def vCells (i : Nat) : TL := fun ss Q _ => ss[i]? = some (.v (.box 0)) ∧ ∀ ns : List Int, ns.length ≤ 100 → Q (ns.map D.int)
theorem i_cells (i : Nat) {x : Str} {j : Nat} (hgp : gpD X.K g.toB) (hu : X.A.units + 64 < cLine) (hN : X.N[i]? = some x := by rfl) (hv : Vis X.env.scope x := by first | exact Or.inl rfl | exact Or.inr (Or.inl rfl) | exact Or.inr (Or.inr rfl)) (hd : (x == ("__debug__" : Str)) = false := by decide) (hcd : (x == ("__classdict__" : Str)) = false := by decide)
    (hs : NoSl (.Constant (.str "cells") j p2) := by exact fun _ _ => rfl) : DI X P g tg (.Subscript (.Name x p) (.Constant (.str "cells") j p2) pos) (vCells i) :=
  ⟨_, pi_sq (pe_dget (by omega) (pe_var hN hv hd hcd) pe_str hs), fun σ H E H0 ss Q Qx R S T h k => by
    obtain ⟨hi, hq⟩ := h
    obtain ⟨zz, r, L, C, cells, e, h1, DI0⟩ := draw_at hgp S hi
    obtain ⟨x, y, hr⟩ := DI0.d
    have hin : g.inv = DrawIn zz r L C cells := congrArg B.inv e
    refine ⟨_, h1, r, .ref C, rfl, by have := DGet.k (k := .inr "cells") hr; rw [dkv_cells] at this; exact this, C, rfl, .inl ⟨⟨_, SqL.of DI0.c.1⟩, ?_⟩⟩
    refine k (Itl X.K C) H (cells.map (fun z : Int => D.int z)) (fun _ _ => True) S (Ext.refl _ _) ?_ trivial (hq cells DI0.c.2)
    refine ⟨fun _ _ _ _ _ _ => trivial, fun i H R hv _ hi => ?_, fun i H R x H' d hv _ _ hd hy => ?_, fun i H R hv _ e => ?_⟩
    · rw [hin] at hv
      rw [List.length_map] at hi
      exact ⟨_, V.int cells[i], SqL.of hv.c.1, by rw [List.getElem?_map, List.getElem?_eq_getElem hi]; rfl⟩
    · rw [hin] at hv
      obtain ⟨rfl, hy⟩ := hy
      have := hy _ (SqL.of hv.c.1)
      rw [List.getElem?_map] at hd this
      obtain ⟨n, e1, rfl⟩ := Option.map_eq_some_iff.mp hd
      rw [e1] at this
      cases this
      exact ⟨fun _ _ z => z, .int⟩
    · rw [hin] at hv
      exact ⟨_, SqL.of hv.c.1, by rw [List.length_map]; rw [List.length_map] at e; omega⟩⟩
/-- draw["large"].pop(0) if draw["large"] != [] else e -/
def vPopOr (i : Nat) (ta : TD) : TD := fun ss Q Qx => ss[i]? = some (.v (.box 0)) ∧ (∀ z : Int, Q (.int z)) ∧ ta ss Q Qx
theorem dpAll_ints {K : PySem.W.Frag} : ∀ ls : List Int, DpAll K H (ls.map V.int) (ls.map PyData.int)
  | [] => .nil
  | i :: ls => .cons (.int i) (dpAll_ints ls)
theorem lay_ints : ∀ ls : List Int, PyData.canLayAll0 (ls.map PyData.int) = true
  | [] => rfl
  | i :: ls => by
    simp only [List.map_cons, PyData.canLayAll0, PyData.canLay0, lay_ints ls]
    rfl
theorem dep_ints : ∀ ls : List Int, PyData.depthAll (ls.map PyData.int) = 0
  | [] => rfl
  | i :: ls => by
    simp only [List.map_cons, PyData.depthAll, PyData.depth, dep_ints ls]
    rfl
theorem shaped_ints (ls : List Int) : SeqAt.shaped (.list (ls.map PyData.int)) = true := by
  unfold SeqAt.shaped
  simp only [PyData.canLay0, PyData.depth, lay_ints, dep_ints]
  rfl
theorem d_popOr (i : Nat) {x : Str} {j j2 j3 : Nat} {q1 q2 q3 q4 q5 q6 q7 q8 q9 : Pos} (hgp : gpD X.K g.toB) (hu : X.A.units + 64 < cLine) (he : DE X P g e ta) (hN : X.N[i]? = some x := by rfl) (hv : Vis X.env.scope x := by first | exact Or.inl rfl | exact Or.inr (Or.inl rfl) | exact Or.inr (Or.inr rfl)) (hd : (x == ("__debug__" : Str)) = false := by decide) (hcd : (x == ("__classdict__" : Str)) = false := by decide)
    (hs : NoSl (.Constant (.str "large") j p2) := by exact fun _ _ => rfl) (hs2 : NoSl (.Constant (.str "large") j2 p3) := by exact fun _ _ => rfl)
    (hpop : ∀ to ta', PE X (.Subscript (.Name x q4) (.Constant (.str "large") j2 p3) q5) to → PE X (.Constant (.int 0) j3 q6) ta' → PE X (.Call (.Attribute (.Subscript (.Name x q4) (.Constant (.str "large") j2 p3) q5) "pop" q7) [.Constant (.int 0) j3 q6] [] q8) (tBM X.K "list" rPopAt to (tCons ta' tNil)) := by exact fun _ _ h1 h2 => pe_bm PySem.F.plainAttrs_list PySem.F.slot_list_pop PySem.F.type_list_pop mt_popAt h1 (pa_cons h2 pa_nil)) :
    DE X P g (.IfExp (.Compare (.Subscript (.Name x p) (.Constant (.str "large") j p2) q1) [.NotEq] [.List [] q2] q3) (.Call (.Attribute (.Subscript (.Name x q4) (.Constant (.str "large") j2 p3) q5) "pop" q7) [.Constant (.int 0) j3 q6] [] q8) e q9) (vPopOr i ta) := by
  have g1 := pe_dget (pos := q1) (by omega) (pe_var (X := X) (pos := p) hN hv hd hcd) (pe_str (x := "large") (j := j) (pos := p2)) hs
  have g2 := pe_dget (pos := q5) (by omega) (pe_var (X := X) (pos := q4) hN hv hd hcd) (pe_str (x := "large") (j := j2) (pos := p3)) hs2
  refine DE.of (pe_ifExp (pt_cmpR (op_neD hu) g1 (pe_lst pa_nil) rfl) (hpop _ _ g2 pe_int) he.pe) fun σ H E H0 ss Q Qx S T h => ?_
  obtain ⟨hi, hq, ht⟩ := h
  obtain ⟨zz, r, L, C, cells, e, h1, D⟩ := draw_at hgp S hi
  obtain ⟨x, y, hr⟩ := D.d
  obtain ⟨ls, hl, hlen⟩ := D.l
  refine ⟨_, h1, r, .ref L, rfl, by have := DGet.k (k := .inr "large") hr; rw [dkv_large] at this; exact this, Nat.zero_le _, fun q hq0 => ?_⟩
  have S2 : Stt P g E H0 ss σ (upd H q (.lst [])) := S.new hq0
  have e2 : Ext g.W H (upd H q (.lst [])) := Ext.new hq0
  have kp := same_new (o := .lst []) hq0
  refine ⟨.list (ls.map PyData.int), .list [], .lst (SqL.of (kp _ _ hl)) (dpAll_ints ls), .lst (SqL.of upd_same) .nil, shaped_ints ls, by rfl, _, rfl, ?_⟩
  cases ls with
  | nil => exact iteF (upE.run S2 T ht fun v H' d' S' e' n' q' => ⟨d', S', e2.trans e', n', q'⟩)
  | cons z ls =>
    refine iteT ?_
    have D2 := DrawIn.mk D.rl D.rc D.lc ⟨x, y, kp _ _ hr⟩ ⟨z :: ls, kp _ _ hl, hlen⟩ ⟨kp _ _ D.c.1, D.c.2⟩ (scr_keep D.s1 fun _ o e => kp _ _ e) D.s2 D.s3
    refine ⟨_, h1, r, .ref L, rfl, by have := DGet.k (k := .inr "large") (kp _ _ hr); rw [dkv_large] at this; exact this, .inl ⟨rfl, _, SqL.of (kp _ _ hl)⟩, ?_⟩
    have hx : (List.map V.int (z :: ls)).eraseIdx 0 = ls.map V.int := rfl
    refine ⟨L, _, 0, 0, .int z, rfl, rfl, kp _ _ hl, by decide, by decide, by simp [seqIndex?], rfl, ?_⟩
    rw [hx]
    obtain ⟨S3, e3⟩ := S2.drw (u := .lst (ls.map V.int)) e (.inr (.inl rfl)) (kp _ _ hl) (fun _ z => by cases z) (fun _ z => by cases z) NR.lst (D2.setL (by rw [List.length_cons] at hlen; omega))
    exact ⟨_, S3, e2.trans e3, .int, hq z⟩
/-- len(script) -/
def vLenS (i : Nat) : TD := fun ss Q _ => ss[i]? = some (.v (.box 7)) ∧ ∀ n : Nat, n ≤ 63 → Q (.int n)
theorem d_lenS (i : Nat) {x : Str} (hgp : gpD X.K g.toB) (hg : Gl X "len") (hm : X.mg "len" = none) (hN : X.N[i]? = some x := by rfl) (hv : Vis X.env.scope x := by first | exact Or.inl rfl | exact Or.inr (Or.inl rfl) | exact Or.inr (Or.inr rfl)) (hd : (x == ("__debug__" : Str)) = false := by decide) (hcd : (x == ("__classdict__" : Str)) = false := by decide) :
    DE X P g (.Call (.Name "len" p) [.Name x p2] [] pos) (vLenS i) :=
  DE.of (pe_callB call_len_seq hg hm (by first | rfl | decide +kernel) (pa_cons (pe_var hN hv hd hcd) pa_nil)) fun σ H E H0 ss Q Qx S T h => by
    obtain ⟨hi, hq⟩ := h
    obtain ⟨z, r, L, C, cells, eK, e⟩ := hgp
    obtain ⟨v, h1, h2⟩ := S.val i _ hi
    have hb : g.bx = fun n a => (n = 0 ∧ a = r) ∨ (n = 7 ∧ a = z.a) := congrArg B.bx e
    have hin : g.inv = DrawIn z r L C cells := congrArg B.inv e
    have hinv := S.sg.inv
    rw [hin] at hinv
    cases h2 with
    | box q =>
      rw [hb] at q
      rcases q with ⟨q, _⟩ | ⟨_, rfl⟩
      · cases q
      · refine ⟨_, h1, _, _, rfl, .inl (by rw [← eK]; exact hinv.s1.1), _, S, Ext.refl _ _, .int, ?_⟩
        rw [List.length_map]
        exact hq _ hinv.s3
end
end DL

set_option maxRecDepth 100000
set_option maxHeartbeats 4000000
namespace DL
open PySem PySem.Spec PyProof.Rows L2 LamX NdefX DLX

section
variable {P : Gl0} {g : G} {H : Hp} {ss : SS} {σ : L2.St}
/-- a state at an entry: nothing of one's own yet -/
theorem stt_of (hl : ss.length = σ.length) (sg : SG P g g.M H) (no : ∀ (i : Nat) (d : D), ss[i]? ≠ some (.own d)) (hv : ∀ (i : Nat) (d : D), ss[i]? = some (.v d) → ∃ v, σ[i]? = some (some v) ∧ Den P g g.M H v d) : Stt P g E00 H ss σ H := by
  have rg : ∀ x, Rg g E00 σ ss x → g.M x := fun x r => by
    rcases r with r | r | ⟨i, d, h, _⟩
    · exact r
    · exact r.elim
    · exact (no i d h).elim
  refine ⟨sg.sub rg, trivial, Ext.refl _ _, hl, fun i d h => ?_, fun i d h => (no i d h).elim, fun i j d e a h => (no i d h).elim⟩
  obtain ⟨v, h1, h2⟩ := hv i d h
  exact ⟨v, h1, Den.mv (Mv.sub rg) h2⟩
end
/-! ### the script, where the draw is begun -/
def scrB (K : PySem.W.Frag) (a : Addr) (ns : List Int) (c : Prop) : B where
  W := fun x => x = a ∧ c
  inv := fun H => SqL K H a (ns.map V.int) ∧ (c ∨ ∀ H', SqL K H' a (ns.map V.int))
  bx := fun n x => n = 7 ∧ x = a
  hinv := fun H H' k h => by
    obtain ⟨h1, h2⟩ := h
    rcases h2 with h2 | h2
    · refine ⟨?_, .inl h2⟩
      rcases h1 with (h1 | ⟨o, h1⟩) | h1
      · exact .inl (.inl (k _ _ ⟨rfl, h2⟩ h1))
      · exact .inl (.inr ⟨o, k _ _ ⟨rfl, h2⟩ h1⟩)
      · exact .inr h1
    · exact ⟨h2 H', .inr h2⟩
def gpS (K : PySem.W.Frag) (b : B) : Prop := ∃ a ns c, ns.length ≤ 63 ∧ b = scrB K a ns c
def vScr (i : Nat) : TL := fun ss Q _ => ss[i]? = some (.v (.box 7)) ∧ ∀ ns : List Int, ns.length ≤ 63 → Q (ns.map fun z : Int => D.int z)
section
variable {X : Cx} {P : Gl0} {g : G} {tg : Expr} {pos p : Pos} {E : Ex} {H0 H : Hp} {ss : SS} {σ : St}
theorem i_scr (i : Nat) {x : Str} (hgp : gpS X.K g.toB) (hN : X.N[i]? = some x := by rfl) (hv : Vis X.env.scope x := by first | exact Or.inl rfl | exact Or.inr (Or.inl rfl) | exact Or.inr (Or.inr rfl)) (hd : (x == ("__debug__" : Str)) = false := by decide) (hcd : (x == ("__classdict__" : Str)) = false := by decide) :
    DI X P g tg (.Name x p) (vScr i) :=
  ⟨_, pi_sq (pe_var hN hv hd hcd), fun σ H E H0 ss Q Qx R S T h k => by
    obtain ⟨hi, hq⟩ := h
    obtain ⟨a, ns, c, hl, e⟩ := hgp
    have hb : g.bx = fun n x => n = 7 ∧ x = a := congrArg B.bx e
    have hin : g.inv = fun H => SqL X.K H a (ns.map V.int) ∧ (c ∨ ∀ H', SqL X.K H' a (ns.map V.int)) := congrArg B.inv e
    obtain ⟨v, h1, h2⟩ := S.val i _ hi
    have hv := S.sg.inv
    rw [hin] at hv
    cases h2 with
    | box q =>
      rw [hb] at q
      obtain ⟨_, rfl⟩ := q
      refine ⟨_, h1, _, rfl, .inl ⟨⟨_, hv.1⟩, ?_⟩⟩
      refine k (Itl X.K _) H (ns.map fun z : Int => D.int z) (fun _ _ => True) S (Ext.refl _ _) ?_ trivial (hq ns hl)
      refine ⟨fun _ _ _ _ _ _ => trivial, fun i H R hv _ hi => ?_, fun i H R x H' d hv _ _ hd hy => ?_, fun i H R hv _ e => ?_⟩
      · rw [hin] at hv
        rw [List.length_map] at hi
        exact ⟨_, V.int ns[i], hv.1, by rw [List.getElem?_map, List.getElem?_eq_getElem hi]; rfl⟩
      · rw [hin] at hv
        obtain ⟨rfl, hy⟩ := hy
        have := hy _ hv.1
        rw [List.getElem?_map] at hd this
        obtain ⟨n, e1, rfl⟩ := Option.map_eq_some_iff.mp hd
        rw [e1] at this
        cases this
        exact ⟨fun _ _ z => z, .int⟩
      · rw [hin] at hv
        exact ⟨_, hv.1, by rw [List.length_map]; rw [List.length_map] at e; omega⟩⟩
end
/-- the draw, begun -/
structure Begun (K : PySem.W.Frag) (a : Addr) (P : Gl0) (H H' : Hp) (z : Scr) (r L C : Addr) (cells : List Int) : Prop where
  eK : z.K = K
  ea : z.a = a
  hc : z.c → ∃ o, H' z.a = some o ∧ NR o
  gone : ∀ b, H' b = none → H b = none
  fr : H r = none
  fL : H L = none
  fC : H C = none
  inv : DrawIn z r L C cells H'
  tabs : TabsN P.T H'
def spBegun (K : PySem.W.Frag) (P : Gl0) : Sp := fun vs H Q E => ∃ (a : Addr) (ns : List Int), vs = [.ref a] ∧ SqL K H a (ns.map V.int) ∧ ns.length ≤ 63 ∧ TabsN P.T H ∧ ∀ z r L C cells H', Begun K a P H H' z r L C cells → Q (.ref r) H'
def upN (P : Gl0) (gp : B → Prop) (tl : TL) : TE := fun σ H K => ∃ g : G, gp g.toB ∧ ∃ E H0 ss Q, Stt P g E H0 ss σ H ∧ tl ss Q noX ∧ ∀ H1 p vs l, Stt P g E H0 ss σ H1 → Ext g.W H H1 → H1 p = none → DenL P g (Rg g E σ ss) H1 vs l → Q l → K (.ref p) (upd H1 p (.lst vs))
theorem pe_upN {X : Cx} {P : Gl0} {gp : B → Prop} {e : Expr} {tl : TL} (h : ∀ g : G, gp g.toB → DN X P g e tl) : PE X e (upN P gp tl) := by
  refine ⟨fun pins s σ H Q I ⟨g, hg, E, H0, ss, Qd, S, ht, k⟩ => ?_⟩
  obtain ⟨te, h1, h2⟩ := (h g hg).ex
  exact h1.run pins s σ H Q I (h2 σ H E H0 ss Qd noX Q S .no ht k)
theorem ps_upN {X : Cx} {P : Gl0} {gp : B → Prop} {st : Stmt} {i : Nat} {tl : TL} (h : ∀ g : G, gp g.toB → DNA X P g st i tl) : PS X st (tAsg (upN P gp tl) (gName i)) := by
  refine ⟨fun pins s σ H D I ⟨g, hg, E, H0, ss, Qd, S, ht, k⟩ => ?_⟩
  obtain ⟨te, h1, h2⟩ := (h g hg).ex
  exact h1.run pins s σ H D I (h2 σ H E H0 ss Qd noX _ S .no ht k)
/-- its two lists, by their rules -/
theorem begun_read {K : PySem.W.Frag} {P : Gl0} {t1 t2 : TE} {a : Addr} {ns : List Int} {H : Hp} {Q : VK} {tl1 tl2 : TL} (hS : SqL K H a (ns.map V.int)) (hlen : ns.length ≤ 63) (hT : TabsN P.T H)
    (h1 : ∀ g, gpS K g.toB → ∀ (σ : St) (H : Hp) (E : Ex) (H0 : Hp) (ss : SS) (Q : List D → Prop) (Kv : VK), Stt P g E H0 ss σ H → tl1 ss Q noX → (∀ H1 p vs l, Stt P g E H0 ss σ H1 → Ext g.W H H1 → H1 p = none → DenL P g (Rg g E σ ss) H1 vs l → Q l → Kv (.ref p) (upd H1 p (.lst vs))) → t1 σ H Kv)
    (h2 : ∀ g, gpS K g.toB → ∀ (σ : St) (H : Hp) (E : Ex) (H0 : Hp) (ss : SS) (Q : List D → Prop) (Kv : VK), Stt P g E H0 ss σ H → tl2 ss Q noX → (∀ H1 p vs l, Stt P g E H0 ss σ H1 → Ext g.W H H1 → H1 p = none → DenL P g (Rg g E σ ss) H1 vs l → Q l → Kv (.ref p) (upd H1 p (.lst vs))) → t2 σ H Kv)
    (r1 : ∀ ss : SS, ss = [.v (.box 7), .u, .u] → tl1 ss (fun l => ∃ ls : List Int, l = ls.map (fun z : Int => D.int z) ∧ ls.length ≤ 100) noX) (r2 : ∀ ss : SS, ss = [.v (.box 7), .u, .u] → tl2 ss (fun l => ∃ ls : List Int, l = ls.map (fun z : Int => D.int z) ∧ ls.length ≤ 100) noX)
    (k : ∀ z r L C cells H', Begun K a P H H' z r L C cells → Q (.ref r) H') :
    t1 [some (.ref a), none, none] H (fun v H1 => tDisp [(tC (.str "large"), tVar 2), (tC (.str "rest"), tC (.int 0)), (tC (.str "cells"), t2), (tC (.str "turn"), tC (.int 0))] [some (.ref a), none, some v] H1 Q) := by
  obtain ⟨c, hc1, hc2⟩ : ∃ c : Prop, (c ∨ ∀ H', SqL K H' a (ns.map V.int)) ∧ (c → ∃ o, H a = some o ∧ NR o) := by
    rcases hS with (h | ⟨o, h⟩) | h
    · exact ⟨True, .inl trivial, fun _ => ⟨_, h, NR.lst⟩⟩
    · exact ⟨True, .inl trivial, fun _ => ⟨_, h, NR.frz⟩⟩
    · exact ⟨False, .inr fun H' => .inr h, fun z => z.elim⟩
  obtain ⟨g, hg⟩ : ∃ g : G, g = { toB := scrB K a ns c, M := fun x => x = a ∧ c, hW := fun x h => h } := ⟨_, rfl⟩
  have hgp : gpS K g.toB := ⟨a, ns, c, hlen, by rw [hg]⟩
  have hM : g.M = fun x => x = a ∧ c := by rw [hg]
  have hW : g.W = fun x => x = a ∧ c := by rw [hg]; rfl
  have hin : g.inv = fun H => SqL K H a (ns.map V.int) ∧ (c ∨ ∀ H', SqL K H' a (ns.map V.int)) := by rw [hg]; rfl
  have hb : g.bx = fun n x => n = 7 ∧ x = a := by rw [hg]; rfl
  have sg : SG P g g.M H := ⟨hT, by rw [hin]; exact ⟨hS, hc1⟩, fun x hx => by
    rw [hM] at hx
    obtain ⟨rfl, q⟩ := hx
    exact hc2 q, by rw [hg]; trivial⟩
  have S0 : Stt P g E00 H (startS ["script", "grain", "large"] [.box 7]) (L2.start ["script", "grain", "large"] [.ref a]) H := stt_start sg (.cons (.box (by rw [hb]; exact ⟨rfl, rfl⟩)) .nil)
  refine h1 g hgp _ H E00 H _ _ _ S0 (r1 _ rfl) fun H1 L vs l S1 e1 hL nl ⟨ls, el, hls⟩ => ?_
  subst el
  have ev := nl.ints
  subst ev
  intro r hr
  have S2 : Stt P g E00 H [.v (.box 7), .u, .u] [some (.ref a), none, some (.ref L)] (upd H1 L (.lst (ls.map V.int))) := (S1.new hL).wipe1 2
  have S3 := S2.new (o := .dK []) hr
  refine ⟨_, rfl, ?_⟩
  refine h2 g hgp _ _ E00 H _ _ _ S3 (r2 _ rfl) fun H4 C vs l S4 e4 hC nl ⟨cs, el, hcs⟩ => ?_
  subst el
  have ev := nl.ints
  subst ev
  have nt : ∀ {x : Addr}, ¬ Rg g E00 [some (.ref a), none, some (V.ref L)] [.v (.box 7), .u, .u] x → ¬ g.W x := fun n w => n (Rg.W w)
  have rL : r ≠ L := fun z => by rw [z, upd_same] at hr; cases hr
  have hr1 : H1 r = none := by rw [upd_ne rL] at hr; exact hr
  have wr : ¬ g.W r := nt (S2.fresh hr)
  have wL : ¬ g.W L := fun w => S1.fresh hL (Rg.W w)
  have hr4 : H4 r = some (.dK []) := e4.keep r _ upd_same NT.dK wr
  have hL4 : H4 L = some (.lst (ls.map V.int)) := e4.keep L _ (by rw [upd_ne rL.symm, upd_same]) NT.lst wL
  have rC : r ≠ C := fun z => by rw [z, hC] at hr4; cases hr4
  have LC : L ≠ C := fun z => by rw [z, hC] at hL4; cases hL4
  refine ⟨by rw [upd_ne rC]; exact hr4, dkv L C 0 0, rfl, show 4 ≤ 15 from by decide, ?_⟩
  have em : mergeK [] (dkv L C 0 0) = dkv L C 0 0 := (merge_nd (kvs := []) (more := dkv L C 0 0) (by show [Sum.inr (("large" : Str)), Sum.inr ("rest" : Str), Sum.inr ("cells" : Str), Sum.inr ("turn" : Str)].Nodup; decide)).trans (List.nil_append _)
  rw [em]
  have e3 : Ext g.W H (upd (upd H1 L (.lst (ls.map V.int))) r (.dK [])) := (e1.trans (Ext.new hL)).trans (Ext.new hr)
  have e5 : Ext g.W H (upd H4 C (.lst (cs.map V.int))) := (e3.trans e4).trans (Ext.new hC)
  have hr0 : H r = none := e1.gone r hr1
  have e6 : Ext g.W H (upd (upd H4 C (.lst (cs.map V.int))) r (.dK (dkv L C 0 0))) := e5.mut hr0
  have inv4 := S4.sg.inv
  rw [hin] at inv4
  have na : c → a ≠ r ∧ a ≠ L ∧ a ≠ C := fun h => by
    obtain ⟨o, q, _⟩ := hc2 h
    refine ⟨fun z => ?_, fun z => ?_, fun z => ?_⟩
    · rw [z, hr0] at q; cases q
    · rw [z, e1.gone L hL] at q; cases q
    · rw [z, (e3.trans e4).gone C hC] at q; cases q
  have s1 := scr_keep (H' := upd (upd H4 C (.lst (cs.map V.int))) r (.dK (dkv L C 0 0))) inv4 fun h o e => by rw [upd_ne (na h).1, upd_ne (na h).2.2]; exact e
  refine k ⟨K, a, ns, c⟩ r L C cs _ ⟨rfl, rfl, fun h => ?_, fun b z => e6.gone b z, hr0, e1.gone L hL, (e3.trans e4).gone C hC, ⟨rL, rC, LC, ⟨0, 0, upd_same⟩, ⟨ls, by rw [upd_ne rL.symm, upd_ne LC]; exact hL4, hls⟩, ⟨by rw [upd_ne rC.symm, upd_same], hcs⟩, s1, na, hlen⟩, ?_⟩
  · have h : c := h
    obtain ⟨o, q, n⟩ := S4.sg.trk a (.inl (by rw [hM]; exact ⟨rfl, h⟩))
    exact ⟨o, by show upd (upd H4 C (.lst (cs.map V.int))) r (.dK (dkv L C 0 0)) a = some o; rw [upd_ne (na h).1, upd_ne (na h).2.2]; exact q, n⟩
  exact tabs_mut (S4.new (o := .lst (cs.map V.int)) hC).sg.tabs (by rw [upd_ne rC]; exact hr4) (fun _ z => by cases z) (fun _ z => by cases z)
end DL

set_option maxRecDepth 100000
set_option maxHeartbeats 4000000
namespace DL
open PySem PySem.Spec PyProof.Rows L2 LamX NdefX DLX

/-! ### a law's defs, by their names -/
structure FD (Pr : Program) (w : World) (K : PySem.W.Frag) (mg : Str → Option Value) (base : Heap) (x : Str) (k : Nat) (ps : List Str) (sp : Sp) : Prop where
  ex : ∃ (f : Addr) (fd : FuncData), mg x = some (.ref f) ∧ PySem.W.keepIn K (.ref f) = true ∧ Binds K fd ps [] ∧ FnG Pr w K mg base (L2.CX Pr w) k f fd ps sp
section
variable {X : Cx} {P : Gl0} {g : G} {e : Expr} {es : List Expr} {ta : TD} {tl : TL} {pos p : Pos} {E : Ex} {H0 H : Hp} {ss : SS} {σ : St} {k n : Nat} {ps : List Str} {x : Str}
theorem d_callF {gp : B → Prop} {c : Ctr} (F : FD X.prog X.w X.K X.mg X.base x k ps (spD P gp n c)) (hr : Room k X.A) (hgd : X.A.guards = some []) (hg : Gl X x) (hgp : gp g.toB) (ha : DA X P g (e :: es) tl) (hdb : (x == ("__debug__" : Str)) = false := by decide)
    (he : starEach (e :: es) X.env = (false, eval e X.env) :: starEach es X.env := by rfl) (hpl : (backTo pos (starEach es X.env)).any (·.1) = false := by rfl) : DE X P g (.Call (.Name x p) (e :: es) [] pos) (vCall n c tl) := by
  obtain ⟨f, fd, hm, hk, hb, F⟩ := F.ex
  exact d_call F hr hgd hg hm hk hb hgp ha hdb he hpl
/-- the layer's rule, for a def that raises nothing -/
theorem pe_callF {sp : Sp} {t : TA} (F : FD X.prog X.w X.K X.mg X.base x k ps sp) (hr : Room k X.A) (hgd : X.A.guards = some []) (hg : Gl X x) (ha : PA X (e :: es) t) (hdb : (x == ("__debug__" : Str)) = false := by decide)
    (he : starEach (e :: es) X.env = (false, eval e X.env) :: starEach es X.env := by rfl) (hpl : (backTo pos (starEach es X.env)).any (·.1) = false := by rfl) : PE X (.Call (.Name x p) (e :: es) [] pos) (fun σ H Q => t σ H fun vs H1 => sp vs H1 Q fun _ _ _ => False) := by
  obtain ⟨f, fd, hm, hk, hb, F⟩ := F.ex
  refine ⟨fun pins s σ H Q I h => ?_⟩
  refine wpAny_Call_Name_kw (ld_glob I hg hm ?_ hdb)
  refine PySem.W.callWith_K (h₀ := X.base) I.ok.mod.kin hk (thn (ha.run pos pins s σ H _ I h) fun us s1 ⟨vs, H1, I1, r, q⟩ => ⟨I1.kIn, ?_⟩) he hpl
  refine run_fnG (σ := σ) F hr hgd hb (fun pins H s e s' I c => ?_) I1 r q
  obtain ⟨_, _, _, _, _, _, _, _, _, _, _, _, z⟩ := c
  exact z.elim
/-- from here on: over the draw -/
theorem pss_box {sts : List Stmt} {t : TSt} (h : ∀ g : G, gpD X.K g.toB → DSs X P g sts t) : PSs X sts (fun D σ H => ∃ g : G, gpD X.K g.toB ∧ upS X P g t D σ H) := ⟨fun pins s σ H D I ⟨g, hg, q⟩ => (h g hg).pss.run pins s σ H D I q⟩
def drawG (z : Scr) (r L C : Addr) (cells : List Int) : G := { toB := drawB z r L C cells, M := fun a => (a = r ∨ a = L ∨ a = C) ∨ (a = z.a ∧ z.c), hW := fun _ h => h }
theorem stt_draw {K : PySem.W.Frag} {a r L C : Addr} {z : Scr} {cells : List Int} {N : Nat} {Hz : Hp} (Bg : Begun K a P Hz H z r L C cells) : Stt P (drawG z r L C cells) E00 H (.v (.box 7) :: .v (.box 0) :: List.replicate N .u) (some (.ref a) :: some (.ref r) :: List.replicate N none) H := by
  have Dr := Bg.inv
  refine stt_of (g := drawG z r L C cells) (by simp) ⟨Bg.tabs, Dr, fun x h => ?_, trivial⟩ (fun i d h => ?_) (fun i d h => ?_)
  · obtain ⟨x1, y1, e1⟩ := Dr.d
    obtain ⟨l1, e2, _⟩ := Dr.l
    rcases h with (w | w | w) | ⟨w, hc⟩
    · exact ⟨_, by rw [w]; exact e1, NR.dK⟩
    · exact ⟨_, by rw [w]; exact e2, NR.lst⟩
    · exact ⟨_, by rw [w]; exact Dr.c.1, NR.lst⟩
    · obtain ⟨o, q, n⟩ := Bg.hc hc
      exact ⟨o, by rw [w]; exact q, n⟩
  · have hm := List.mem_of_getElem? h
    rcases List.mem_cons.mp hm with z | hm
    · cases z
    · rcases List.mem_cons.mp hm with z | hm
      · cases z
      · cases (List.mem_replicate.mp hm).2
  · match i with
    | 0 =>
      cases h
      exact ⟨_, rfl, .box (.inr ⟨rfl, Bg.ea.symm⟩)⟩
    | 1 =>
      cases h
      exact ⟨_, rfl, .box (.inl ⟨rfl, rfl⟩)⟩
    | i + 2 =>
      have h' : (List.replicate N Sl.u)[i]? = some (.v d) := h
      cases (List.mem_replicate.mp (List.mem_of_getElem? h')).2
end
theorem hu65 {k : Nat} {A : Around} (hr : Room k A) : A.units + 65 < cLine := by have := hr.un; omega
/-- the script, as the law has it -/
def spLaw (K : PySem.W.Frag) (P : Gl0) : Sp := fun vs H Q E => ∃ (a : Addr) (ns : List Int), vs = [.ref a] ∧ SqL K H a (ns.map V.int) ∧ ns.length ≤ 63 ∧ TabsN P.T H ∧ ∀ H', Q (.bl true) H'
/-- what the law must bring about -/
def lawN : DEnds := { nx := fun _ => False, rt := fun d => d = .bl true, ex := fun _ _ => False }
theorem law_read {X : Cx} {P : Gl0} {t : TSt} {σ : St} {a r L C : Addr} {z : Scr} {cells : List Int} {Hz H : Hp} {Q : VK} {N : Nat} (Bg : Begun X.K a P Hz H z r L C cells) (hs : σ = some (.ref a) :: some (.ref r) :: List.replicate N none)
    (h : t lawN (.v (.box 7) :: .v (.box 0) :: List.replicate N .u)) (k : ∀ H', Q (.bl true) H') : ∃ g : G, gpD X.K g.toB ∧ upS X P g t { nx := fun _ H' => Q .non H', rt := Q } σ H := by
  subst hs
  refine ⟨drawG z r L C cells, ⟨z, r, L, C, cells, Bg.eK, rfl⟩, E00, H, _, lawN, stt_draw Bg, .inl fun _ _ z => z, h, fun σ' H' ⟨_, _, z⟩ => z.elim, fun σ' H' ⟨_, _, z⟩ => z.elim, fun σ' H' ⟨_, _, z⟩ => z.elim, fun v H' ⟨d, σ, ss, _, n, z⟩ => ?_⟩
  have z : d = .bl true := z
  subst z
  cases n
  exact k H'
/-! ### own exception classes, their kinship -/
def mroL (CB C : Addr) : List Value := if C = CB then [.ref CB, .type "ValueError", .type "Exception", .type "BaseException", .type "object"] else [.ref C, .ref CB, .type "ValueError", .type "Exception", .type "BaseException", .type "object"]
def excKB (K : PySem.W.Frag) (CB C : Addr) : Bool := xfB K C && (decide (PySem.W.findIn K (.ref C) "__class__" = some (some (.builtin "object.__class__"))) && (decide (PySem.W.typeIn K (.ref C) = some (.type "type")) && decide ((PySem.W.clsIn K C).map (·.mro) = some (mroL CB C))))
structure ExcK (K : PySem.W.Frag) (CB C : Addr) : Prop where
  xf : XfC K C
  cl : PySem.W.findIn K (.ref C) "__class__" = some (some (.builtin "object.__class__"))
  ty : PySem.W.typeIn K (.ref C) = some (.type "type")
  mro : ∃ cd, PySem.W.clsIn K C = some cd ∧ cd.mro = mroL CB C
theorem excKB_ok {K : PySem.W.Frag} {CB C : Addr} (h : excKB K CB C = true) : ExcK K CB C := by
  unfold excKB at h
  simp only [Bool.and_eq_true, decide_eq_true_eq] at h
  obtain ⟨h1, h2, h3, h4⟩ := h
  obtain ⟨cd, h5, h6⟩ := Option.map_eq_some_iff.mp h4
  exact ⟨xfB_ok h1, h2, h3, cd, h5, h6⟩
section
variable {K : PySem.W.Frag} {CB a b : Addr}
theorem ExcK.mroIn (h : ExcK K CB a) (v : Value) : PySem.W.mroIn K a v = some ((mroL CB a).contains v) := by
  obtain ⟨cd, h1, h2⟩ := h.mro
  unfold PySem.W.mroIn
  rw [h1, Option.bind_some, h2, if_neg]
  unfold mroL
  split <;> simp
theorem ExcK.exc (h : ExcK K CB a) (og : PySem.W.specialIn K (.builtin "object.__class__") "__get__" = some (some (.builtin "getset_descriptor.__get__"))) (ot : PySem.W.takesIn K (.builtin "object.__class__") = some true) : ExcC K a :=
  ⟨h.xf.ga, h.xf.gg, h.xf.exC, h.xf.hdC, h.cl, og, ot, by rw [h.mroIn]; unfold mroL; split <;> simp⟩
theorem isa_cc (ha : ExcK K CB a) (hb : ExcK K CB b) (hne : b ≠ CB) : PySem.W.kitOne K (.ref a) (.ref b) = some (decide (a = b)) := by
  unfold PySem.W.kitOne
  by_cases e : a = b
  · subst e
    rw [if_pos (by simp)]
    simp
  · rw [if_neg (by simpa using e)]
    unfold PySem.W.kitCls
    dsimp only
    obtain ⟨cd, h1, _⟩ := hb.mro
    rw [if_pos (by rw [h1, hb.ty]; rfl)]
    show PySem.W.mroIn K a (.ref b) = _
    rw [ha.mroIn]
    unfold mroL
    have e' : ¬ b = a := fun z => e z.symm
    split <;> simp [e, e', hne]
theorem isa_cB (ha : ExcK K CB a) (hb : ExcK K CB CB) : PySem.W.kitOne K (.ref a) (.ref CB) = some true := by
  unfold PySem.W.kitOne
  by_cases e : a = CB
  · subst e
    rw [if_pos (by simp)]
  · rw [if_neg (by simpa using e)]
    unfold PySem.W.kitCls
    dsimp only
    obtain ⟨cd, h1, _⟩ := hb.mro
    rw [if_pos (by rw [h1, hb.ty]; rfl)]
    show PySem.W.mroIn K a (.ref CB) = _
    rw [ha.mroIn]
    unfold mroL
    split <;> simp
theorem isa_cV (ha : ExcK K CB a) : PySem.W.kitOne K (.ref a) (.type "ValueError") = some true := by
  unfold PySem.W.kitOne
  rw [if_neg (by simp)]
  unfold PySem.W.kitCls
  dsimp only
  rw [if_pos (by decide +kernel)]
  show PySem.W.mroIn K a (.type "ValueError") = _
  rw [ha.mroIn]
  unfold mroL
  split <;> simp
end
end DL

set_option maxRecDepth 100000
set_option maxHeartbeats 4000000
namespace DL
open PySem PySem.Spec PyProof.Rows L2 LamX NdefX DLX

section
variable {X : Cx} {P : Gl0} {g : G}
theorem OpD.imp {f : Value → Value → Sem Value} {r r' : RD} (h : OpD X P g f r) (i : ∀ x y Q, r' x y Q → r x y Q) : OpD X P g f r' := by
  obtain ⟨hr, h1, h2⟩ := h
  exact ⟨hr, h1, fun σ H E H0 ss x y dx dy Q K S nx ny q k => h2 σ H E H0 ss x y dx dy Q K S nx ny (i dx dy Q q) k⟩
/-- ==, ints and bools in short -/
def rEqS : RD := fun x y Q => match x, y with
  | .int i, .int j => Q (.bl (decide (i = j)))
  | .bl a, .bl b => Q (.bl (a == b))
  | .str a, .str b => Q (.bl (decide (a = b)))
  | x, y => rEq x y Q
def rNeS : RD := fun x y Q => match x, y with
  | .int i, .int j => Q (.bl (!decide (i = j)))
  | .bl a, .bl b => Q (.bl (!(a == b)))
  | .str a, .str b => Q (.bl (!decide (a = b)))
  | x, y => rNe x y Q
theorem o_eqS (hu : X.A.units + 64 < cLine) : OpD X P g (compareOp .Eq) rEqS := by
  obtain ⟨hS, s1, s2⟩ := o_eq (X := X) (P := P) (g := g) hu
  refine ⟨_, op_eq.or s1, fun σ H E H0 ss x y dx dy Q K S nx ny h kk => ?_⟩
  unfold rEqS at h
  split at h
  · exact .inr (s2 σ H E H0 ss x y _ _ Q K S nx ny ⟨rfl, rfl, h⟩ kk)
  · exact .inr (s2 σ H E H0 ss x y _ _ Q K S nx ny ⟨rfl, rfl, h⟩ kk)
  · rename_i u v
    cases nx; cases ny
    refine .inl ⟨rfl, ?_⟩
    have e : decide (V.str u = V.str v) = decide (u = v) := by
      rw [Bool.eq_iff_iff]; simp
    rw [e]
    exact kk _ _ (.now S .bl h)
  · exact .inr (s2 σ H E H0 ss x y _ _ Q K S nx ny h kk)
theorem o_neS (hu : X.A.units + 64 < cLine) : OpD X P g (compareOp .NotEq) rNeS := by
  obtain ⟨hS, s1, s2⟩ := o_ne (X := X) (P := P) (g := g) hu
  refine ⟨_, op_ne.or s1, fun σ H E H0 ss x y dx dy Q K S nx ny h kk => ?_⟩
  unfold rNeS at h
  split at h
  · exact .inr (s2 σ H E H0 ss x y _ _ Q K S nx ny ⟨rfl, rfl, h⟩ kk)
  · exact .inr (s2 σ H E H0 ss x y _ _ Q K S nx ny ⟨rfl, rfl, h⟩ kk)
  · rename_i u v
    cases nx; cases ny
    refine .inl ⟨rfl, ?_⟩
    have e : decide (V.str u = V.str v) = decide (u = v) := by
      rw [Bool.eq_iff_iff]; simp
    rw [e]
    exact kk _ _ (.now S .bl h)
  · exact .inr (s2 σ H E H0 ss x y _ _ Q K S nx ny h kk)
end
section
variable {X : Cx} {P : Gl0} {g : G}
theorem s_append (i : Nat) {x : Str} {e : Expr} {ta : TD} {p1 p2 p3 p4 : Pos} (he : DE X P g e ta)
    (hp : ∀ te, PE X e te → PS X (.Expr (.Call (.Attribute (.Name x p1) "append" p2) [e] [] p3) p4) (tDrop (tBM X.K "list" L2.rAppend (tVar i) (tCons te tNil))) := by exact fun te ht => ps_expr (pe_bm PySem.F.plainAttrs_list PySem.F.slot_list_append PySem.F.type_list_append mt_append (pv _) (pa_cons ht pa_nil))) :
    DS X P g (.Expr (.Call (.Attribute (.Name x p1) "append" p2) [e] [] p3) p4) (vApp i ta) := s_app i he hp
end
section
variable {X : Cx} {P : Gl0} {g : G} {tg e : Expr} {ta : TD} {tgt : TG'} {js : List Nat} {pos : Pos}
/-- target = e, the target any -/
def vAsg (ta : TD) (tgt : TG') : TSt := fun N ss => ta ss (fun d => tgt d ss N.nx) N.ex
theorem s_asg (he : DE X P g e ta) (hg : DG X P g tg js tgt) (hs : swapsWithSole [tg] e pos.line X.env = pure false := by rfl) (hw : swappedStores [tg] e X.env = pure none := by rfl) (h1 : (assignEach [tg] X.env).map (·.2) = [assign tg X.env] := by rfl) : DS X P g (.Assign [tg] e pos) (vAsg ta tgt) := by
  obtain ⟨gt, g1, g2⟩ := hg.ex
  exact DS.of (ps_asg he.pe g1 hs hw h1) fun σ H E H0 ss N S T h => upE.run S T h fun v H' d S' e' n q => g2 v d σ H' E H0 ss _ _ S' n q fun σ' ss' S2 _ _ _ q2 => ⟨ss', S2, q2⟩
end
theorem atI_nat {α : Type} {l : List α} {k : Int} (h0 : 0 ≤ k) (h1 : k < l.length) : L2.atI l k = some (l[k.toNat]'(by omega)) := by
  unfold L2.atI
  have e : ixN l.length k = some k.toNat := by
    unfold ixN
    first
      | (simp [h0, h1]; done)
      | (rw [if_pos ⟨h0, h1⟩])
      | (simp [h0, h1]; omega)
  rw [e, Option.bind_some]
  exact List.getElem?_eq_getElem _
end DL

set_option maxRecDepth 100000
set_option maxHeartbeats 4000000
namespace DL
open PySem PySem.Spec PyProof.Rows L2 LamX NdefX DLX

/-! ### an own exception, from what the written part says -/
theorem oex_mk {Pr : Program} {w : World} {K : PySem.W.Frag} {mg : Str → Option Value} {base : Heap} {C f cda cc : Addr} {qual attr pn : Str} {st : Stmt}
    {nm q : Str} {N : Addr} {bs bm : List Value} {sn : List Str} {sub : List Value} {ab : Bool} {col : Option Bool} {dd : Option Addr} {k0 k1 k2 k3 k5 : Option Value}
    {oc : Value} {od : Option Addr} {osl : Array (Option Value)} {name : Str} {dV kV doc pm ct : Value} {an : Option Addr} {ccl : Value} {cdd : Option Addr} {vs : Array Value} {ccs : Array (Option Value)} {file : Str} {tf : Tok} {cl : Value} {cld : Option Addr} {csl : Array (Option Value)}
    (lC : K.lookup C = some (excClassObj nm q C N bs bm true sn sub ab col dd k0 k1 k2 k3 k5 "ValueError.__new__")) (hbm : PySem.HandSPX.refsVE bm = true)
    (sa : PySem.W.findIn K (.ref C) "__setattr__" = some (some (.builtin "object.__setattr__"))) (exC : PySem.W.subIn K (.ref C) (.type "BaseException") = some true) (tyC : PySem.W.typeIn K (.ref C) = some (.type "type")) (kC : PySem.W.keepIn K (.ref C) = true)
    (iC : PySem.W.findIn K (.ref C) "__init__" = some (some (.ref f))) (tI : PySem.W.typeIn K (.ref f) = some (.type "function"))
    (l1 : K.lookup f = some ⟨oc, od, .func (PySem.W.ksFn name qual (defArgs st) (defBody st) (defScope st) dV kV doc pm an (.ref cda) ct cc), osl⟩) (c1 : PySem.W.codeIn K (.ref cda) qual = true)
    (lD : K.lookup cda = some ⟨ccl, cdd, .fields vs, ccs⟩) (hvs : vs[2]? = some (.str file tf)) (hfile : ((Pr.main.file : Str) == file) = true) (lc : K.lookup cc = some ⟨cl, cld, .cell (some (.ref C)), csl⟩)
    (top : (Pr.main.scope.names.lookup ("super" : Str)).isSome = false) (sup : PySem.W.nsIn K mainGlobals "super" = some none) (opq : PySem.W.nsIn K cStatics "thirdparty.any" = some none) (ini : PySem.W.ks_superIn K C C "__init__" = some (some (.builtin "ValueError.__init__")))
    (subC : PySem.W.mroIn K C (.ref C) = some true) (subB : PySem.W.subIn K (.ref C) (.type "ValueError") = some true) (no : PySem.W.findIn K (.ref C) attr = some none)
    (bd : ∃ p0 p1 p2 txt j p3 p4 p5 q1 q2 q3 q4, defBody st = [.Expr (.Call (.Attribute (.Call (.Name "super" p0) [] [] p1) "__init__" p2) [.Constant (.str txt) j p3] [] p4) p5, .Assign [.Attribute (.Name "self" q1) attr q2] (.Name pn q3) q4] ∧
      (∃ pl : Sem Bool, ∀ env, eval (.Call (.Attribute (.Call (.Name "super" p0) [] [] p1) "__init__" p2) [.Constant (.str txt) j p3] [] p4) env = (do
        let ov ← attributeBase (.Call (.Name "super" p0) [] [] p1) "__init__" env (eval (.Call (.Name "super" p0) [] [] p1) env)
        standAt p2.atName
        let (f, first) ← holding [ov] (getMethod ov "__init__" pl)
        callWith p4 f first (backTo p4 (starEach [.Constant (.str txt) j p3] env)) [])) ∧
      (∀ env, swapsWith (.Call (.Attribute (.Call (.Name "super" p0) [] [] p1) "__init__" p2) [.Constant (.str txt) j p3] [] p4) none p5.line env = pure false) ∧
      (∀ env, swapsWith (.Name pn q3) (some (.Attribute (.Name "self" q1) attr q2)) q4.line env = pure false))
    (har : ∃ ar, ((defArgs st).posonlyargs ++ (defArgs st).args).head? = some ar ∧ ar.arg = "self")
    (sc : (defScope st).names.lookup ("super" : Str) = some .globalImplicit ∧ (defScope st).names.lookup ("__class__" : Str) = some .free ∧ (defScope st).names.lookup ("self" : Str) = some .local ∧ (defScope st).names.lookup pn = some .local ∧ (defScope st).kind = .function ∧ (defScope st).isCoroutine = false ∧ (defScope st).isGenerator = false ∧ (∀ x ∈ (defScope st).names, x.2 ≠ .cell) ∧ pn ≠ ("self" : Str) ∧ (pn == ("__debug__" : Str)) = false)
    (bx : BX (PySem.W.ksFn name qual (defArgs st) (defBody st) (defScope st) dV kV doc pm an (.ref cda) ct cc) pn) : OexD Pr w K mg base C attr pn := by
  have T : OexC K C := ⟨⟨_, _, _, _, _, _, _, _, _, _, _, _, _, _, _, lC, hbm⟩, sa, exC, tyC, kC⟩
  obtain ⟨s1, s2, s3, s4, s5, s6, s7, s8, s9, s10⟩ := sc
  have W : Words K Pr C f qual attr pn (defBody st) (defScope st) := ⟨bd, ⟨_, _, _, _, _, _, _, _, _, _, _, _, _, l1, c1, har, ⟨_, _, _, _, _, _, lD, hvs, hfile⟩, ⟨_, _, _, lc⟩⟩, top, sup, opq, ini, subC, subB, no, s1, s2, s3, s4, s5, s6, s7, s8, s9, s10⟩
  exact ⟨T, f, _, iC, tI, bx, init_ok T W ⟨_, _, _, l1⟩⟩

/-! ### the law's own call, where no repr runs -/
theorem law_end {Pr : Program} {w : World} {K : PySem.W.Frag} {mg mb : Str → Option Value} {k : Nat} {fa a : Addr} {fd : FuncData} {sp : Sp} {s : Shared} {vs : List Value} {ns : List Int}
    (KX : K.In s.heap) (hns : s.heap.Ns mainGlobals mg) (hb : s.heap.Ns builtinsNs mb) (hbb : ∀ x : Str, x ≠ "__name__" → mb x = bootBuiltins x) (hlim : s.heap.NoLimit) (hg : s.gens = #[])
    (ha : s.heap.get? a = some { cls := .type "list", data := .seq vs.toArray }) (hi : IntsAre vs ns) (hl : ns.length ≤ sizeLine) (hr : Room k callerA)
    (F : ∀ base : Heap, K.In base → base.Ns mainGlobals mg → FnG Pr w K mg base (L2.CX Pr w) k fa fd ["script"] sp) (hbind : ∀ (s : Shared) (u : Value), BindsTo s fd ⟨[u], []⟩ [(("script" : Str), u)])
    (hsp : ∀ H : Hp, SqL K H a (ns.map V.int) → sp [.ref a] H (fun v _ => v = .bl true) fun _ _ _ => False) :
    codeAny (model Pr w) callerA (.call (.ref fa) ⟨[.ref a], []⟩) (fun r s' => r = .ok (.ret (.bool true)) ∧ OldK s.heap s'.heap ∧ s'.os = s.os ∧ AllBare s'.gens) s := by
  have rv := vals_ints hi
  obtain ⟨u0, hu0⟩ : ∃ u0 : HO, u0 = .frz { cls := .type "list", data := .seq vs.toArray } (.lst (ns.map V.int)) := ⟨_, rfl⟩
  -- at most the script is tracked
  have core : ∀ H : Hp, (∀ b u, H b = some u → b = a ∧ u = u0 ∧ K.lookup a = none) → SqL K H a (ns.map V.int) → HOk Pr w H s.heap → 
      codeAny (model Pr w) callerA (.call (.ref fa) ⟨[.ref a], []⟩) (fun r s' => r = .ok (.ret (.bool true)) ∧ OldK s.heap s'.heap ∧ s'.os = s.os ∧ AllBare s'.gens) s := by
    intro H hH hS hok
    have dict : ∀ {b : Addr} {o : Obj} {es : Array DictEntry} {ep : Nat}, s.heap.get? b = some o → o.data = .dict es ep → H b = none := fun {b o es ep} e d => by
      cases q : H b with
      | none => rfl
      | some u =>
        obtain ⟨rfl, _, _⟩ := hH b u q
        rw [ha] at e
        cases e
        cases d
    have ns' : ∀ {b : Addr} {m : Str → Option Value}, s.heap.Ns b m → (hidT s.heap H).Ns b m := fun {b m} ⟨o, es, ep, e, d, r⟩ => ⟨o, es, ep, hidT_get e (dict e d), d, r⟩
    have kin : K.In (hidT s.heap H) := fun b o e => hidT_get (KX b o e) (by
      cases q : H b with
      | none => rfl
      | some u =>
        obtain ⟨rfl, _, n⟩ := hH b u q
        rw [n] at e
        cases e)
    have M : L2.Mod K mg (hidT s.heap H) := ⟨kin, ns' hns, ⟨mb, ns' hb, hbb⟩, let ⟨mc, h1, h2⟩ := hlim; ⟨mc, ns' h1, h2⟩⟩
    have e0 : Env0 Pr w K mg (hidT s.heap H) callerA [] s H := ⟨rfl, M, fun b o e => of_hidT e, Nat.le_of_eq (hidT_size _ _), trivial, fun b hb => (List.not_mem_nil hb).elim, hok, .of_eq hg⟩
    refine codeAny_mono ((F _ kin (ns' hns)).run callerA [] s H ⟨[.ref a], []⟩ [.ref a] [.ref a] _ _ hr rfl e0 (hbind s (.ref a)) (.cons rfl .nil) (hsp H hS)) fun r s' h => ?_
    cases r with
    | error e =>
      obtain ⟨_, _, _, _, _, _, _, _, _, _, _, _, z⟩ := h
      exact z.elim
    | ok fl =>
      cases fl with
      | next => exact False.elim h
      | brk => exact False.elim h
      | cont => exact False.elim h
      | ret u =>
        obtain ⟨v, H', os, bare, un, hok', rv', q⟩ := h
        have q : v = .bl true := q
        subst q
        obtain rfl : u = Value.bool true := rv'
        have key : ∀ b o, s.heap.get? b = some o → s'.heap.get? b = some o := fun b o e => by
          cases z : H b with
          | none => exact un.keep b o e z (fun m => List.not_mem_nil m) (fun m => List.not_mem_nil m)
          | some u =>
            obtain ⟨rfl, rfl, _⟩ := hH b u z
            rw [hu0] at z
            have z2 := un.frzs _ _ _ z
            obtain ⟨e1, _⟩ := hok' _ _ z2
            rw [ha] at e
            cases e
            exact e1
        exact ⟨rfl, ⟨fun b o e => .inl (key b o e), fun b o e => ⟨o, key b o e⟩⟩, os, bare⟩
  cases hk : K.lookup a with
  | some o =>
    have e := KX a o hk
    rw [ha] at e
    cases e
    exact core (fun _ => none) (fun b u z => by cases z) (.inr ⟨_, vs.toArray, _, hk, rfl, rfl, rfl, by rw [List.size_toArray, hi.length]; exact hl, by simpa using rv⟩) (fun b u z => by cases z)
  | none =>
    refine core (fun b => if b = a then some u0 else none) (fun b u z => ?_) (.inl (.inr ⟨{ cls := .type "list", data := .seq vs.toArray }, by rw [hu0]; exact if_pos rfl⟩)) (fun b u z => ?_)
    · have z : (if b = a then some u0 else none) = some u := z
      by_cases e : b = a
      · rw [if_pos e] at z
        cases z
        exact ⟨e, rfl, hk⟩
      · rw [if_neg e] at z
        cases z
    · have z : (if b = a then some u0 else none) = some u := z
      by_cases e : b = a
      · rw [if_pos e] at z
        cases z
        subst e
        rw [hu0]
        exact ⟨ha, by rw [List.length_map]; exact hl, vs, _, rv, ha⟩
      · rw [if_neg e] at z
        cases z
theorem walkG {l : PySem.W.OpenLaw} {n k : Nat} {q : Program} {loose : List Str} {XP : (Str → Option Value) → Heap → Prop} {YP : World → Heap → Prop} {d : DefRec} {K : Params → PySem.W.Frag}
    (hn : l.most = some n) (hn2 : n ≤ sizeLine) (hdf : d.params.defaults = []) (hr : Room k callerA) (hY : ∀ (w : World) (h : Heap), YP w h → (K w.params).In h)
    (F : ∀ (w : World) (mg : Str → Option Value) (fa : Addr) (h : Heap), (K w.params).In h → h.Ns mainGlobals mg → mg d.name = some (.ref fa) →
      ∃ (fd : FuncData) (sp : Sp), (∀ (s : Shared) (u : Value), BindsTo s fd ⟨[u], []⟩ [(("script" : Str), u)]) ∧ (∀ (H : Hp) (a : Addr) (ns : List Int), ns.length ≤ n → SqL (K w.params) H a (ns.map V.int) → sp [.ref a] H (fun v _ => v = .bl true) fun _ _ _ => False) ∧
        ∀ base : Heap, (K w.params).In base → base.Ns mainGlobals mg → FnG l.prog w (K w.params) mg base (L2.CX l.prog w) k fa fd ["script"] sp) :
    PySem.W.WalkO q loose XP YP l.row.toRowW d [] (fun f vs => PySem.call f vs) := by
  refine Att.attach_callB hn hdf fun w s₀ s₁ mg mb fa o pm cd doc a vs ns G Y ho hd hcd hmg hobj hints hlen hbits hg => ?_
  have KX := hY w _ Y
  obtain ⟨fd, sp, hb, hsp, hF⟩ := F w mg fa _ KX G.T.g hmg
  exact law_end KX G.T.g G.T.b G.T.builtins G.T.nolimit hg hobj hints (Nat.le_trans hlen hn2) hr hF hb fun H hS => hsp H a ns hlen hS
end DL

set_option maxRecDepth 100000
set_option maxHeartbeats 4000000
namespace DL
open PySem PySem.Spec PyProof.Rows L2 LamX NdefX DLX

/-! ### an own exception class, looked at -/
structure XI where
  C : Addr
  f : Addr
  cda : Addr
  cc : Addr
  name : Str
  qual : Str
  st : Stmt
  attr : Str
def clsV (K : PySem.W.Frag) (C : Addr) : Bool := match K.lookup C with
  | some ⟨.type T, _, .cls cd, sl⟩ => (match cd.mro, sl.toList with
    | .ref C' :: bm, [_, _, _, _, some (.builtin n), _] => T == "type" && (C' == C && (n == "ValueError.__new__" && (!cd.hasDel && (cd.hasDict && PySem.HandSPX.refsVE bm))))
    | _, _ => false)
  | _ => false
theorem clsV_ok {K : PySem.W.Frag} {C : Addr} (h : clsV K C = true) : ∃ nm q N bs bm sn sub ab col dd k0 k1 k2 k3 k5, K.lookup C = some (excClassObj nm q C N bs bm true sn sub ab col dd k0 k1 k2 k3 k5 "ValueError.__new__") ∧ PySem.HandSPX.refsVE bm = true := by
  unfold clsV at h
  split at h
  · rename_i T dd cd sl e
    split at h
    · rename_i C' bm k0 k1 k2 k3 n k5 e1 e2
      simp only [Bool.and_eq_true, beq_iff_eq, Bool.not_eq_true'] at h
      obtain ⟨h1, h2, h3, h4, h5, h6⟩ := h
      subst h1 h2 h3
      obtain ⟨nm, bs, mro, ns, qn, hd, sn, sb, ab, col, del⟩ := cd
      dsimp only at e1 h4 h5
      subst e1 h4 h5
      obtain ⟨sl⟩ := sl
      dsimp only at e2
      subst e2
      exact ⟨_, _, _, _, _, _, _, _, _, _, _, _, _, _, _, e, h6⟩
    · cases h
  · cases h
def xiB (Pr : Program) (K : PySem.W.Frag) (i : XI) : Bool := clsV K i.C && (He.eqO (PySem.W.findIn K (.ref i.C) "__setattr__") (some (some (.builtin "object.__setattr__"))) && (decide (PySem.W.subIn K (.ref i.C) (.type "BaseException") = some true) && (decide (PySem.W.typeIn K (.ref i.C) = some (.type "type")) && (PySem.W.keepIn K (.ref i.C) &&
  (He.eqO (PySem.W.findIn K (.ref i.C) "__init__") (some (some (.ref i.f))) && (decide (PySem.W.typeIn K (.ref i.f) = some (.type "function")) && (PySem.W.codeIn K (.ref i.cda) i.qual && ((match K.lookup i.cda with | some ⟨_, _, .fields vs, _⟩ => (match (vs[2]? : Option Value) with | some (Value.str file _) => (Pr.main.file : Str) == file | _ => false) | _ => false) &&
  ((match K.lookup i.cc with | some ⟨_, _, .cell (some v), _⟩ => decide (v = .ref i.C) | _ => false) && (He.eqO (PySem.W.ks_superIn K i.C i.C "__init__") (some (some (.builtin "ValueError.__init__"))) && (decide (PySem.W.mroIn K i.C (.ref i.C) = some true) && (decide (PySem.W.subIn K (.ref i.C) (.type "ValueError") = some true) && He.eqO (PySem.W.findIn K (.ref i.C) i.attr) (some none)))))))))))))
abbrev FnX : Type := Option (Str × Str × Arguments × FuncBody × Scope × Addr × List (Str × Addr) × Value × Value × Addr)
def xiF (K : PySem.W.Frag) (i : XI) : FnX := match K.lookup i.f with
  | some ⟨_, _, .func fd, _⟩ => some (fd.name, fd.qualname, fd.params, fd.body, fd.scope, fd.globals, fd.closure, fd.defaults, fd.code, fd.builtins)
  | _ => none
def XI.val (i : XI) : FnX := some (i.name, i.qual, defArgs i.st, .stmts (defBody i.st), defScope i.st, mainGlobals, [("__class__", i.cc)], .none, .ref i.cda, builtinsNs)
/-- what stands in the program's text, of such a class -/
structure XIT (i : XI) (pn : Str) : Prop where
  bd : ∃ p0 p1 p2 txt j p3 p4 p5 q1 q2 q3 q4, defBody i.st = [.Expr (.Call (.Attribute (.Call (.Name "super" p0) [] [] p1) "__init__" p2) [.Constant (.str txt) j p3] [] p4) p5, .Assign [.Attribute (.Name "self" q1) i.attr q2] (.Name pn q3) q4] ∧
      (∃ pl : Sem Bool, ∀ env, eval (.Call (.Attribute (.Call (.Name "super" p0) [] [] p1) "__init__" p2) [.Constant (.str txt) j p3] [] p4) env = (do
        let ov ← attributeBase (.Call (.Name "super" p0) [] [] p1) "__init__" env (eval (.Call (.Name "super" p0) [] [] p1) env)
        standAt p2.atName
        let (f, first) ← holding [ov] (getMethod ov "__init__" pl)
        callWith p4 f first (backTo p4 (starEach [.Constant (.str txt) j p3] env)) [])) ∧
      (∀ env, swapsWith (.Call (.Attribute (.Call (.Name "super" p0) [] [] p1) "__init__" p2) [.Constant (.str txt) j p3] [] p4) none p5.line env = pure false) ∧
      (∀ env, swapsWith (.Name pn q3) (some (.Attribute (.Name "self" q1) i.attr q2)) q4.line env = pure false)
  har : ∃ ar, ((defArgs i.st).posonlyargs ++ (defArgs i.st).args).head? = some ar ∧ ar.arg = "self"
  sc : (defScope i.st).names.lookup ("super" : Str) = some .globalImplicit ∧ (defScope i.st).names.lookup ("__class__" : Str) = some .free ∧ (defScope i.st).names.lookup ("self" : Str) = some .local ∧ (defScope i.st).names.lookup pn = some .local ∧ (defScope i.st).kind = .function ∧ (defScope i.st).isCoroutine = false ∧ (defScope i.st).isGenerator = false ∧ (∀ x ∈ (defScope i.st).names, x.2 ≠ .cell) ∧ pn ≠ ("self" : Str) ∧ (pn == ("__debug__" : Str)) = false
  bx : ∀ (kV doc pm ct : Value) (an : Option Addr), BX (PySem.W.ksFn i.name i.qual (defArgs i.st) (defBody i.st) (defScope i.st) .none kV doc pm an (.ref i.cda) ct i.cc) pn
theorem xi_ok {Pr : Program} {w : World} {K : PySem.W.Frag} {mg : Str → Option Value} {base : Heap} {i : XI} {pn : Str} (h : xiB Pr K i = true) (hf : xiF K i = i.val) (T : XIT i pn) (top : (Pr.main.scope.names.lookup ("super" : Str)).isSome = false) (sup : PySem.W.nsIn K mainGlobals "super" = some none) (opq : PySem.W.nsIn K cStatics "thirdparty.any" = some none) : OexD Pr w K mg base i.C i.attr pn := by
  unfold xiB at h
  simp only [Bool.and_eq_true, decide_eq_true_eq] at h
  obtain ⟨h1, h2, h3, h4, h5, h6, h7, h8, h9, h10, h11, h12, h13, h14⟩ := h
  obtain ⟨nm, q, N, bs, bm, sn, sub, ab, col, dd, k0, k1, k2, k3, k5, lC, hbm⟩ := clsV_ok h1
  split at h9
  · rename_i ccl cdd vs ccs lD
    split at h9
    · rename_i file tf hvs
      split at h10
      · rename_i cl cld v csl lc
        have h10 := of_decide_eq_true h10
        subst h10
        unfold xiF XI.val at hf
        split at hf
        · rename_i oc od fd osl l1
          obtain ⟨a1, a2, a3, a4, a5, a6, a7, a8, a9, a10, a11, a12, a13, a14⟩ := fd
          simp only [Option.some.injEq, Prod.mk.injEq] at hf
          obtain ⟨e1, e2, e3, e4, e5, e6, e7, e8, e9, e10⟩ := hf
          subst e1 e2 e3 e4 e5 e6 e7 e8 e9 e10
          exact oex_mk (st := i.st) lC hbm (He.eqO_ok h2) h3 h4 h5 (He.eqO_ok h6) h7 l1 h8 lD hvs h9 lc top sup opq (He.eqO_ok h11) h12 h13 (He.eqO_ok h14) T.bd T.har T.sc (T.bx _ _ _ _ _)
        · cases hf
      · cases h10
    · cases h9
  · cases h9
/-! ### a def, looked at -/
def fnX (K : PySem.W.Frag) (f : Addr) : FnX := match K.lookup f with
  | some ⟨_, _, .func fd, _⟩ => some (fd.name, fd.qualname, fd.params, fd.body, fd.scope, fd.globals, fd.closure, fd.defaults, fd.code, fd.builtins)
  | _ => none
def defV (x : Str) (st : Stmt) (cd : Addr) : FnX := some (x, x, defArgs st, .stmts (defBody st), defScope st, mainGlobals, [], .none, .ref cd, builtinsNs)
theorem def_ok {K : PySem.W.Frag} {x : Str} {st : Stmt} {f cd : Addr} (h : fnX K f = defV x st cd) (c : PySem.W.codeIn K (.ref cd) x = true) (k : PySem.W.keepIn K (.ref f) = true) : ∃ fd : FuncData, L2.Fun K x x st f fd := by
  unfold fnX defV at h
  split at h
  · rename_i oc od fd osl l1
    obtain ⟨a1, a2, a3, a4, a5, a6, a7, a8, a9, a10, a11, a12, a13, a14⟩ := fd
    simp only [Option.some.injEq, Prod.mk.injEq] at h
    obtain ⟨e1, e2, e3, e4, e5, e6, e7, e8, e9, e10⟩ := h
    subst e1 e2 e3 e4 e5 e6 e7 e8 e9 e10
    exact ⟨_, L2.fun_mk l1 c k⟩
  · cases h
/-! ### the head by one run, and the law's end over it -/
abbrev AlL : Type := List (Option (Option Value)) × List Bool × List FnX
def hookL (as : List Addr) (obs : PySem.W.Frag → AlL) (val : AlL) : PySem.W.Hook where
  α := AlL
  obs := fun s => obs (He.frG s.heap.get? as)
  val := fun _ => val
  says := fun _ h => ∃ K : PySem.W.Frag, K.In h ∧ obs K = val
  of := fun _ _ e => ⟨_, He.frG_in, e⟩
  keeps := fun _ _ _ ⟨K, hK, c⟩ k => ⟨K, PySem.W.Frag.In.keeps hK k, c⟩
theorem obL_eq {as : List Addr} {obs : PySem.W.Frag → AlL} {val : AlL} (s : PySem.W.SharedT) : obs (He.frG (HandSHeadRun.getT s) as) = (hookL as obs val).obs s.abs := by
  have e : HandSHeadRun.getT s = s.abs.heap.get? := funext (HandSHeadRun.getT_eq s)
  rw [e]
  rfl
theorem walkH {l : PySem.W.OpenLaw} {n k : Nat} {q : Program} {loose : List Str} {XP : (Str → Option Value) → Heap → Prop} {YP : World → Heap → Prop} {d : DefRec}
    (hn : l.most = some n) (hn2 : n ≤ sizeLine) (hdf : d.params.defaults = []) (hr : Room k callerA)
    (F : ∀ (w : World) (mg : Str → Option Value) (fa : Addr) (h : Heap), YP w h → h.Ns mainGlobals mg → mg d.name = some (.ref fa) →
      ∃ (K : PySem.W.Frag) (fd : FuncData) (sp : Sp), K.In h ∧ (∀ (s : Shared) (u : Value), BindsTo s fd ⟨[u], []⟩ [(("script" : Str), u)]) ∧ (∀ (H : Hp) (a : Addr) (ns : List Int), ns.length ≤ n → SqL K H a (ns.map V.int) → sp [.ref a] H (fun v _ => v = .bl true) fun _ _ _ => False) ∧
        ∀ base : Heap, K.In base → base.Ns mainGlobals mg → FnG l.prog w K mg base (L2.CX l.prog w) k fa fd ["script"] sp) : PySem.W.WalkO q loose XP YP l.row.toRowW d [] (fun f vs => PySem.call f vs) := by
  refine Att.attach_callB hn hdf fun w s₀ s₁ mg mb fa o pm cd doc a vs ns G Y _ _ _ hmg hobj hints hlen _ hg => ?_
  obtain ⟨K, fd, sp, KX, hb, hsp, hF⟩ := F w mg fa _ Y G.T.g hmg
  exact law_end KX G.T.g G.T.b G.T.builtins G.T.nolimit hg hobj hints (Nat.le_trans hlen hn2) hr hF hb fun H hS => hsp H a ns hlen hS
end DL

set_option maxRecDepth 100000
set_option maxHeartbeats 8000000
namespace DL
open PySem PySem.Spec PyProof.Rows L2 LamX NdefX

/-! ### except C as n, where the error caught is data from then on -/
section
variable {X : Cx} {pins : List (Addr × Obj)} {σ : L2.St} {H : Hp} {sI s s' : Shared} {B : Heap} {W : WX} {E : XK}
theorem landedX {a : Addr} {o : HO} (I : Inv X pins σ H sI) (nb : ∀ b o, sI.heap.get? b = some o → b ∉ frs X.stack → B.get? b = some o) (st : B.StaysIn s'.heap) (up : sI.heap.UpToSlots s'.heap) (os : s'.os = sI.os) (ag : AllBare s'.gens) (na : H a = none) (nsa : sI.heap.get? a = none)
    (new : ObjOk X.prog X.w (upd H a o) s'.heap a o) : Inv X pins σ (upd H a o) s' := by
  have nf : ∀ b ∈ frs X.stack, ∀ o, sI.heap.get? b = some o → ∃ sl, s'.heap.get? b = some { o with slots := sl } := fun b hb o e => by
    obtain ⟨_, o', e', hd⟩ := I.stack.mem hb
    rw [e] at e'; cases e'
    exact up b o e hd
  have ne : ∀ b u, H b = some u → b ≠ a := fun b u e z => by rw [z, na] at e; cases e
  have J := I.call (ch := []) (h' := s'.heap) (g' := s'.gens) (t' := s'.toks) (d' := s'.drawn) (H' := upd H a o)
    ⟨fun b o e _ hb _ => st b o (nb b o e hb), fun b o e _ hb _ => nf b hb o e, fun b u e n _ => by
      rw [upd_ne (fun z => by rw [z, nsa] at e; cases e)]
      exact n, fun b o e _ => by
      by_cases hb : b ∈ frs X.stack
      · obtain ⟨sl, q⟩ := nf b hb o e
        exact ⟨_, q⟩
      · exact ⟨o, st b o (nb b o e hb)⟩, fun b xs e => by rw [upd_ne (ne b _ e)]; exact e, fun b ob u e => by rw [upd_ne (ne b _ e)]; exact e, fun b ps e => ⟨#[], by rw [upd_ne (ne b _ e), e]; simp⟩⟩
    ((I.inGround nb).laidN st na new) ag (fun _ z => nomatch z)
  obtain ⟨a1, a2, a3, a4, a5⟩ := s'
  have e5 : a5 = sI.os := os
  subst e5
  exact J
/-- the context of an except suite that pins nothing of its own -/
theorem unsuiteX {a : Addr} {pn' : List (Addr × Obj)} (I : Inv (X.suite a (X.pn ++ pins)) pn' σ H s) (ok : X.Ok) : Inv X pins σ H s :=
  ⟨ok, I.os, I.bare, I.base, I.loc, I.cell, I.free, I.freeC, fun p hp => I.pin p (List.mem_append_left _ hp), I.hok, I.len⟩
theorem suiteX (I : Inv X pins σ H s) (a : Addr) : Inv (X.suite a (X.pn ++ pins)) [] σ H s :=
  ⟨I.ok.suite _ _, I.os, I.bare, I.base, I.loc, I.cell, I.free, I.freeC, fun p hp => by
    have hp' : p ∈ X.pn ++ pins := by rw [List.append_nil] at hp; exact hp
    exact I.pin p hp', I.hok, I.len⟩
end
/-- what the clause wishes of an exception of the body -/
def wAsX (K : PySem.W.Frag) (c : Value) (i : Nat) (ts : TS) (Wout : WX) (D : Ends) : WX := fun cls d σ H =>
  ∃ b C, cls = .ref C ∧ PySem.W.exmOne K cls c = some b ∧ (b = true → ∀ a, H a = none → ts { nx := fun σ' H' => D.nx (σ'.set i none) H', rt := D.rt, bk := fun σ' H' => D.bk (σ'.set i none) H', ct := fun σ' H' => D.ct (σ'.set i none) H' } (σ.set i (some (.ref a))) (upd H a (ExvO a C d))) ∧
    (b = false → Wout cls d σ H)
section
variable {X : Cx} {x n : Str} {c : Value} {i : Nat} {body suite : List Stmt} {b₀ : Stmt} {np pos pos' : Pos} {tb : WX → TS} {ts : TS} {Wout : WX}
theorem ps_try_asX (hs : X.stack = X.env :: X.outer) (hf : X.env.frame = some X.env.locals) (hN : X.N.Nodup) (hi : X.N[i]? = some n) (hln : X.env.kindOf n = some .local) (hc : Names X x c) (tk : Takes X Wout)
    (hb : ∀ (W : WX) (pn : List (Addr × Obj)) (xe : Value → Shared → Prop), Takes (X.tr pn xe) W → PassesOwn (model X.prog X.w) X.A X.env xe → PSs (X.tr pn xe) body (tb W))
    (hsu : ∀ (a : Addr) (pn : List (Addr × Obj)), PSs (X.suite a pn) (b₀ :: suite) ts) :
    PS X (.Try body [.ExceptHandler (some (.Name x np)) (some n) (b₀ :: suite) pos'] [] [] pos) (fun D σ H => tb (wAsX X.K c i ts Wout D) D σ H) := by
  refine ⟨fun pins s σ H D I h => ?_⟩
  have ok := I.ok
  have hfr : X.A.frames = some (X.env :: X.outer) := by rw [ok.frames, hs]
  have hloc : Loc X.env.scope n := .inl hln
  refine wpAny_Try_except ?_
  refine wpAny_mono ((hb (wAsX X.K c i ts Wout D) (X.pn ++ pins) (fun e s₁ => wpAny (model X.prog X.w) X.A (noteFrame e X.env) (fun _ s₂ => wpAny (model X.prog X.w) X.A (setFlight e none) (fun _ s₃ =>
    wpAny (model X.prog X.w) X.A (handleBy e X.env [.ExceptHandler (some (.Name x np)) (some n) (b₀ :: suite) pos']) (SP X pins D) X.xe s₃) X.xe s₂) X.xe s₁) (fun u s' xx => ?_) PassesOwn.looking).run [] s σ H D (I.toTry _) h) (fun f s1 hsp => ?_) (fun e s1 he => he)
  · obtain ⟨a, B, sI, pins', σ', H', cls, d, rfl, J', nb, up, sky, na, os, ag, b, C, rfl, hb1, hyes, hno⟩ := xx
    have J : Inv X pins σ' H' sI := J'.ofTry ok
    have sky' : Sky B (X.env :: X.outer) a (Zc (.ref C) d) X.env.locals s'.heap := by rw [← hs]; exact sky
    show wpAny (model X.prog X.w) X.A (noteFrame (.ref a) X.env) _ _ _
    refine Sky.land Zc.steady hfr hf sky' fun h3 fl3 up3 => ?_
    have J3 : Inv X pins σ' H' { s' with heap := h3 } := J.landed nb fl3.1 (up.trans up3) os ag
    obtain ⟨oe3, vs3, he3, hz3, hd3⟩ := fl3.there
    have notFr : ∀ {h : Heap} {o : Obj} {vs : Array Value}, h.FunFrames B (X.env :: X.outer) → h.get? a = some o → o.data = .fields vs → a ∉ frs (X.env :: X.outer) := fun {h o vs} ff e dd hm => by
      obtain ⟨_, o', e', hnf⟩ := ff.mem hm
      rw [e] at e'; cases e'
      exact hnf _ dd
    have nfr := notFr fl3.2.2.1 he3 hd3
    have nL : a ≠ X.env.locals := fun z => nfr (List.mem_filterMap.mpr ⟨X.env, List.mem_cons_self, by rw [hf, z]⟩)
    have nF : a ∉ X.fs := fun hm => by
      obtain ⟨e, he, q⟩ := List.mem_filterMap.mp hm
      exact nfr (List.mem_filterMap.mpr ⟨e, List.mem_cons_of_mem _ he, q⟩)
    have S3 := J3.suite he3 hd3 na nL nF
    refine wpAny_handleBy_cons (codeAny_handlers_test ?_) (by intro q; cases q)
    have LT : PySem.W.Looks (model X.prog X.w) h3 (typeOf (.ref a)) (.ref C) := fun A Q E s k q => wpAny_typeOf_ref (k _ _ he3) (by rw [hz3.1]; exact q)
    have LM := PySem.W.exm_one (M := model X.prog X.w) (J3.kIn) LT hb1
    have test : ∀ {Q : Value → Shared → Prop} {E : Value → Shared → Prop}, Q c { s' with heap := h3 } → wpAny (model X.prog X.w) (X.A.mark (some (.ref a))) (eval (.Name x np) X.env) Q E { s' with heap := h3 } := fun {Q E} q => by
      obtain ⟨hg, hdbg, hm | ⟨hm, hv, hnn⟩⟩ := hc
      · exact ld_glob (X := X.suite a ((a, oe3) :: (X.pn ++ pins))) S3 hg hm q hdbg
      · exact ld_blt (X := X.suite a ((a, oe3) :: (X.pn ++ pins))) S3 hg hm hv q hnn hdbg
    refine test (LM.here ?_)
    cases b with
    | true =>
      refine codeAny_handlers_suite_as ?_
      refine HandSPX.lands_againZ fl3 fun h4 fl4 up4 => ?_
      obtain ⟨oe4, vs4, he4, hz4, hd4⟩ := fl4.there
      have nsa : sI.heap.get? a = none := by
        cases q : sI.heap.get? a with
        | none => rfl
        | some o =>
          have z := nb a o q (by rw [hs]; exact nfr)
          rw [fl4.2.1] at z
          cases z
      have J4 : Inv X pins σ' (upd H' a (ExvO a C d)) { s' with heap := h4 } := landedX J nb fl4.1 ((up.trans up3).trans up4) os ag na nsa
        ⟨⟨oe4, vs4, he4, hz4.1, hz4.2, hd4⟩, ⟨_, he4⟩, fun h1 h2 ⟨oe, vs, e1, e2⟩ st => ⟨oe, vs, st _ e1, e2⟩⟩
      have S4 := suiteX J4 a
      refine store_ok (X := X.suite a (X.pn ++ pins)) (v := .ref a) S4 hN hi hloc rfl (fun s5 S5 => ?_) (.inr hln)
      refine wpAny_mono ((hsu a (X.pn ++ pins)).run [] s5 _ _ _ S5 (hyes rfl a na)) (fun f s6 hsp => ?_) (fun _ _ z => False.elim z)
      have end_ : ∀ {σ6 : L2.St} {H6 : Hp} {Q : Shared → Prop}, Inv (X.suite a (X.pn ++ pins)) [] σ6 H6 s6 → (∀ s7, Inv X pins (σ6.set i none) H6 s7 → Q s7) →
          wpAny (model X.prog X.w) X.A (do bindName X.env n .none; unbindBehindTheSuite X.env n pos') (fun _ s7 => Q s7) X.xe s6 := fun {σ6 H6 Q} S6 hq => gone_ok (unsuiteX S6 ok) hN hi hln hq
      cases f with
      | next =>
        obtain ⟨σ6, H6, S6, q6⟩ := hsp
        exact end_ S6 fun s7 J7 => ⟨_, _, J7, q6⟩
      | brk =>
        obtain ⟨σ6, H6, S6, q6⟩ := hsp
        exact end_ S6 fun s7 J7 => ⟨_, _, J7, q6⟩
      | cont =>
        obtain ⟨σ6, H6, S6, q6⟩ := hsp
        exact end_ S6 fun s7 J7 => ⟨_, _, J7, q6⟩
      | ret u =>
        obtain ⟨v6, σ6, H6, S6, r6, q6⟩ := hsp
        exact end_ S6 fun s7 J7 => ⟨_, _, _, J7, r6, q6⟩
    | false =>
      show wpAny _ X.A (handleBy (.ref a) X.env []) _ _ _
      refine wpAny_handleBy_nil ?_
      obtain ⟨k1, k2, k3, oe, vs, T, oT, ts', he, hz, hd, h1, hr⟩ := id fl3
      unfold PySem.passOn
      refine wpAny_bind (wpAny_field he hd h1 ?_)
      rw [if_neg (show ¬ ((Value.ref T == Value.none) = true) from by simp)]
      have fin : wpAny (model X.prog X.w) X.A (setFlight (.ref a) X.env.frame) (fun _ s4 => wpAny (model X.prog X.w) X.A (throw (.ref a) : Sem Flow) (SP X pins D) X.xe s4) X.xe { s' with heap := h3 } := by
        rw [hf]
        refine HandSPX.setFlight_upZ fl3 fun h4 hh4 up4 => wpAny_throw (tk _ _ ?_)
        exact ⟨a, B, sI, pins, σ', H', .ref C, d, rfl, J, nb, (up.trans up3).trans up4, .inr (.inr (by rw [hs]; exact hh4)), na, os, ag, hno rfl⟩
      first
        | exact wpAny_bind (wpAny_pure (wpAny_bind fin))
        | exact wpAny_bind fin
  · cases f with
    | next =>
      obtain ⟨σ', H', J', q⟩ := hsp
      exact wpAny_execs_nil ⟨σ', H', J'.ofTry ok, q⟩
    | brk =>
      obtain ⟨σ', H', J', q⟩ := hsp
      exact ⟨σ', H', J'.ofTry ok, q⟩
    | cont =>
      obtain ⟨σ', H', J', q⟩ := hsp
      exact ⟨σ', H', J'.ofTry ok, q⟩
    | ret u =>
      obtain ⟨v, σ', H', J', r, q⟩ := hsp
      exact ⟨v, σ', H', J'.ofTry ok, r, q⟩
end
end DL

set_option maxRecDepth 100000
set_option maxHeartbeats 4000000
namespace DL
open PySem PySem.Spec PyProof.Rows L2 LamX NdefX DLX

section
variable {X : Cx} {P : Gl0} {g : G} {a b c e : Expr} {es : List Expr} {ta tb tc : TD} {tt uu : TB} {tl : TL} {ts us : TSt} {pos p p2 pos' np : Pos} {body suite : List Stmt} {b₀ : Stmt}
variable {E : Ex} {H0 H H1 : Hp} {ss : SS} {σ : L2.St}

/-! ### raise -/
theorem TX.takes {Qx : Err → SS → Prop} (T : TX X P g E H0 Qx) : Takes X (WD P g E H0 Qx) := by
  rcases T with T | T
  · intro u s' x
    obtain ⟨_, _, _, _, _, _, _, _, _, _, _, _, _, _, _, _, err, ss, _, _, q⟩ := x
    exact (T err ss q).elim
  · exact T
/-- one reads PMk of a state's wish -/
theorem s_raise {C : Addr} {mk : St → Hp → XK → Prop} {t : TSt} (hc : X.calm = true) (he : PMk X e mk)
    (k : ∀ σ H E H0 ss (N : DEnds), Stt P g E H0 ss σ H → TX X P g E H0 N.ex → t N ss → mk σ H fun cls d H' => WD P g E H0 N.ex cls d σ H') : DS X P g (.Raise (some e) none pos) t :=
  ⟨fun pins s σ H E H0 ss N I S T h => (ps_raise hc T.takes he).run pins s σ H _ I (k σ H E H0 ss N S T h)⟩
/-- raise C(e), C with an __init__ that keeps e -/
def vRaiX (C : Addr) (attr : Str) (ta : TD) : TSt := fun N ss => ta ss (fun d => N.ex ⟨C, [(attr, d)]⟩ ss) N.ex
theorem s_raiX {C : Addr} {attr pn x : Str} (hc : X.calm = true) (T : OexD X.prog X.w X.K X.mg X.base C attr pn) (hr : Room 1 X.A) (hg : Gl X x) (hm : X.mg x = some (.ref C)) (he : DE X P g e ta) (hdb : (x == ("__debug__" : Str)) = false := by decide) (hs : starEach [e] X.env = (false, eval e X.env) :: starEach [] X.env := by rfl) (hpl : (backTo p2 (starEach [] X.env)).any (·.1) = false := by rfl) :
    DS X P g (.Raise (some (.Call (.Name x p) [e] [] p2)) none pos) (vRaiX C attr ta) := by
  obtain ⟨fI, fd, iC, tI, bx, F1⟩ := T.fn
  have hb : Binds X.K fd ["self", pn] [] := fun s us _ hl => by
    rw [List.append_nil] at hl ⊢
    match us, hl with
    | [u1, u2], _ => exact bx.pos s u1 u2
  refine s_raise (C := C) hc (pmk_oex (CX := L2.CX X.prog X.w) (dvs := []) T.cls iC tI F1 hr hb .nil passL hg hm (pa_cons he.pe pa_nil hs) hdb hs hpl) fun σ H E H0 ss N S T' h => ?_
  refine upE.run S T' h fun v H1 d S1 e1 n1 q1 => ⟨(by simp : [v].length ≤ 1000), fun a0 hn => ?_⟩
  refine ⟨a0, v, rfl, upd_same, fun dx hdx hne => ⟨rfl, dx, [(attr, v)], by rw [upd_same], by rw [upd_ne hne, upd_same], by rw [upd_ne hne] at hdx; exact hdx, ?_⟩⟩
  have hd1 : H1 dx = none := by rw [upd_ne hne] at hdx; exact hdx
  have eH : upd (L2.del (upd (upd (upd H1 a0 (exo a0 C none)) dx (exd dx [(attr, v)])) a0 (exo a0 C (some dx))) a0) dx (.xd [(attr, v)]) = upd H1 dx (.xd [(attr, v)]) := by
    funext b
    by_cases hb1 : b = dx
    · rw [hb1, upd_same, upd_same]
    · rw [upd_ne hb1, upd_ne hb1]
      by_cases hb2 : b = a0
      · rw [hb2, del_same, hn]
      · rw [del_ne hb2, upd_ne hb2, upd_ne hb1, upd_ne hb2]
  rw [eH]
  have e2 : Ext g.W H1 (upd H1 dx (.xd [(attr, v)])) := Ext.new hd1
  exact ⟨⟨C, [(attr, d)]⟩, ss, S1.new hd1, .some (S1.fresh hd1) upd_same (.cons (den_W e2 n1) .nil), q1⟩
/-- raise C('m'), C without an __init__ of its own -/
def vRai0 (C : Addr) : TSt := fun N ss => N.ex ⟨C, []⟩ ss
theorem s_rai0 {C : Addr} {x m : Str} {j : Nat} {p3 : Pos} (hc : X.calm = true) (q : PySem.W.excIn X.K C [.type "ValueError", .type "Exception", .type "BaseException", .type "object"] "ValueError.__new__" = true) (hx : ExcK X.K CB C) (hg : Gl X x) (gC : X.mg x = some (.ref C)) (kC : PySem.W.keepIn X.K (.ref C) = true) (hdb : (x == ("__debug__" : Str)) = false := by decide) :
    DS X P g (.Raise (some (.Call (.Name x p) [.Constant (.str m) j p3] [] p2)) none pos) (vRai0 C) := by
  have r : Raises X (.ref C) := raises_own (by
    have h1 := hx.mroIn (.type "BaseException")
    have h2 : (mroL CB C).contains (.type "BaseException") = true := by unfold mroL; split <;> simp
    rw [h2] at h1
    unfold PySem.W.subIn
    exact h1) hx.ty
  exact s_raise (C := C) hc (pmk_own F.excBase_ValueError q gC kC r hg hdb) fun σ H E H0 ss N S T' h => ⟨⟨C, []⟩, ss, S, .zero, h⟩
/-! ### try: body / except C as n: suite -/
def vTryAs (isa : Addr → Option Bool) (i : Nat) (tb th : TSt) : TSt := fun N ss => tb { N with ex := fun err ss1 => match isa err.C with
  | some true => th { nx := fun z => N.nx (z.set i .u), rt := N.rt, bk := fun z => N.bk (z.set i .u), ct := fun z => N.ct (z.set i .u), ex := fun _ _ => False } (ss1.set i (.v (.exc err.C err.fs)))
  | some false => N.ex err ss1
  | none => False } ss
theorem s_tryAs (isa : Addr → Option Bool) {x n : Str} {c : Value} (i : Nat) (hs : X.stack = X.env :: X.outer) (hf : X.env.frame = some X.env.locals) (hN : X.N.Nodup) (hc : Names X x c) (hisa : ∀ C b, isa C = some b → PySem.W.exmOne X.K (.ref C) c = some b)
    (hb : ∀ (pn : List (Addr × Obj)) (xe : Value → Shared → Prop), PassesOwn (model X.prog X.w) X.A X.env xe → DSs (X.tr pn xe) P g body ts)
    (hsu : ∀ (a : Addr) (pn : List (Addr × Obj)), DSs (X.suite a pn) P g (b₀ :: suite) us) (hi : X.N[i]? = some n := by rfl) (hln : X.env.kindOf n = some .local := by rfl) :
    DS X P g (.Try body [.ExceptHandler (some (.Name x np)) (some n) (b₀ :: suite) pos'] [] [] pos) (vTryAs isa i ts us) := by
  refine ⟨fun pins s σ H E H0 ss N I S T h => ?_⟩
  refine (ps_try_asX (tb := fun W D σ H => ∃ E H0 ss N, Stt P g E H0 ss σ H ∧ (∀ cls d σ H, WD P g E H0 N.ex cls d σ H → W cls d σ H) ∧ ts N ss ∧ (∀ σ' H', (SPD P g E H0 N).nx σ' H' → D.nx σ' H') ∧ (∀ σ' H', (SPD P g E H0 N).bk σ' H' → D.bk σ' H') ∧ (∀ σ' H', (SPD P g E H0 N).ct σ' H' → D.ct σ' H') ∧ (∀ v H', (SPD P g E H0 N).rt v H' → D.rt v H'))
    (ts := fun D σ H => ∃ E H0 ss N, Stt P g E H0 ss σ H ∧ (∀ e ss, ¬ N.ex e ss) ∧ us N ss ∧ (∀ σ' H', (SPD P g E H0 N).nx σ' H' → D.nx σ' H') ∧ (∀ σ' H', (SPD P g E H0 N).bk σ' H' → D.bk σ' H') ∧ (∀ σ' H', (SPD P g E H0 N).ct σ' H' → D.ct σ' H') ∧ (∀ v H', (SPD P g E H0 N).rt v H' → D.rt v H'))
    hs hf hN hi hln hc T.takes (fun W pn xe tk hp => ⟨fun pins s σ H D I hw => ?_⟩) (fun a pn => ⟨fun pins s σ H D I hw => ?_⟩)).run pins s σ H _ I ?_
  · obtain ⟨E, H0, ss, N, S, hW, ht, k1, k2, k3, k4⟩ := hw
    exact thn ((hb pn xe hp).run pins s σ H E H0 ss N I S (.inr (tk.imp hW)) ht) fun f s' q => SP.mono q k1 k2 k3 k4
  · obtain ⟨E, H0, ss, N, S, hW, ht, k1, k2, k3, k4⟩ := hw
    exact thn ((hsu a pn).run pins s σ H E H0 ss N I S (.inl hW) ht) fun f s' q => SP.mono q k1 k2 k3 k4
  · refine ⟨E, H0, ss, _, S, ?_, h, fun _ _ z => z, fun _ _ z => z, fun _ _ z => z, fun _ _ z => z⟩
    rintro cls d σ1 H1 ⟨⟨C0, fs0⟩, ss1, S1, ne, q⟩
    have hC : cls = .ref C0 := by cases ne <;> rfl
    subst hC
    dsimp only at q
    cases hb : isa C0 with
    | none => rw [hb] at q; exact q.elim
    | some bb =>
      rw [hb] at q
      refine ⟨bb, C0, rfl, hisa _ _ hb, fun e a ha => ?_, fun e => ?_⟩
      · subst e
        have S2 := S1.new (o := ExvO a C0 d) ha
        have n2 : Den P g (Rg g E σ1 ss1) (upd H1 a (ExvO a C0 d)) (.ref a) (.exc C0 fs0) := by
          cases ne with
          | zero => exact .exc0 (S1.fresh ha) upd_same
          | @some C dd vs fs n hd hfl =>
            have hda : dd ≠ a := fun z => by rw [z, ha] at hd; cases hd
            exact .exc (S1.fresh ha) n upd_same (by rw [upd_ne hda]; exact hd) (DenF.mv (Mv.ext (Ext.new (W := g.W) ha) fun a w => Rg.W w) hfl)
        refine ⟨_, _, _, _, S2.set i n2, fun _ _ z => z, q, ?_, ?_, ?_, ?_⟩
        · rintro σ' H' ⟨ss', S', q'⟩; exact ⟨_, S'.wipe1 i, q'⟩
        · rintro σ' H' ⟨ss', S', q'⟩; exact ⟨_, S'.wipe1 i, q'⟩
        · rintro σ' H' ⟨ss', S', q'⟩; exact ⟨_, S'.wipe1 i, q'⟩
        · rintro v H' ⟨d', σ', ss', S', n', q'⟩; exact ⟨d', σ', ss', S', n', q'⟩
      · subst e
        exact ⟨⟨C0, fs0⟩, ss1, S1, ne, q⟩
end
end DL

set_option maxRecDepth 100000
set_option maxHeartbeats 4000000
namespace DL
open PySem PySem.Spec PyProof.Rows L2 LamX NdefX DLX

/-! ### cells lent to a callee, and taken out again -/
/-- a cell that is lent: its object, locked -/
def CelF (o : Obj) : HO := .frz o (.ext fun _ => True)
/-- with the cells of C told of -/
def plusC (H : Hp) (C : Addr → Option Obj) : Hp := fun b => match C b with
  | some o => some (CelF o)
  | none => H b
/-- without them -/
def minusC (H : Hp) (C : Addr → Option Obj) : Hp := fun b => match C b with
  | some _ => none
  | none => H b
section
variable {H H' : Hp} {C : Addr → Option Obj} {b : Addr} {o : Obj} {u : HO} {P : Program} {w : World} {h h' : Heap}
theorem plus_at (e : C b = some o) : plusC H C b = some (CelF o) := by unfold plusC; rw [e]
theorem plus_no (e : C b = none) : plusC H C b = H b := by unfold plusC; rw [e]
theorem minus_at (e : C b = some o) : minusC H C b = none := by unfold minusC; rw [e]
theorem minus_no (e : C b = none) : minusC H C b = H b := by unfold minusC; rw [e]
theorem minus_some (e : minusC H C b = some u) : C b = none ∧ H b = some u := by
  unfold minusC at e
  split at e
  · cases e
  · rename_i z
    exact ⟨z, e⟩
theorem cel_ok (e : h.get? b = some o) : ObjOk P w H h b (CelF o) := ⟨e, trivial, ⟨o, e⟩, fun _ _ _ _ => trivial⟩
theorem cel_at (hok : HOk P w H h) (e : H b = some (CelF o)) : h.get? b = some o := (hok b _ e).1
/-- the cells, untracked, as they are -/
structure CellU (H : Hp) (h : Heap) (fs : List Addr) (C : Addr → Option Obj) : Prop where
  free : ∀ b o, C b = some o → H b = none
  at_ : ∀ b o, C b = some o → h.get? b = some o
  nf : ∀ b o, C b = some o → b ∉ fs
/-- the cells, tracked -/
structure CellT (H : Hp) (fs : List Addr) (C : Addr → Option Obj) : Prop where
  at_ : ∀ b o, C b = some o → H b = some (CelF o)
  nf : ∀ b o, C b = some o → b ∉ fs
theorem CellU.no {fs : List Addr} (c : CellU H h fs C) (e : H b = some u) : C b = none := by
  cases q : C b with
  | none => rfl
  | some o => rw [c.free b o q] at e; cases e
theorem CellT.no {fs : List Addr} (c : CellT H fs C) (e : H b = none) : C b = none := by
  cases q : C b with
  | none => rfl
  | some o => rw [c.at_ b o q] at e; cases e
theorem noF (t : ∀ b o, C b = some o → H b = some (CelF o)) (e : H b = some u) (n : ∀ ob y, u ≠ .frz ob y) : C b = none := by
  cases q : C b with
  | none => rfl
  | some o => rw [t b o q] at e; exact absurd (Option.some.inj e).symm (n _ _)
theorem hok_plus {fs : List Addr} (c : CellU H h fs C) (hok : HOk P w H h) : HOk P w (plusC H C) h := fun b u e => by
  cases q : C b with
  | some o =>
    rw [plus_at q] at e
    cases e
    exact cel_ok (c.at_ b o q)
  | none =>
    rw [plus_no q] at e
    exact (hok b u e).stay (fun _ _ _ z => z) (fun x z => by rw [plus_no (c.no z)]; exact z) fun x xs z => by rw [plus_no (c.no z)]; exact z
/-- for a heap that has lost only cells -/
theorem hok_minus (t : ∀ b o, C b = some o → H b = some (CelF o)) (hok : HOk P w H h) : HOk P w (minusC H C) h := fun b u e => by
  obtain ⟨q, e⟩ := minus_some e
  exact (hok b u e).stay (fun _ _ _ z => z) (fun x z => by rw [minus_no (noF t z fun _ _ y => by cases y)]; exact z) fun x xs z => by rw [minus_no (noF t z fun _ _ y => by cases y)]; exact z
end
section
variable {H : Hp} {C : Addr → Option Obj} {P : Program} {w : World} {K : PySem.W.Frag} {mg : Str → Option Value} {base : Heap} {A : Around} {outer : List Env} {s s' : Shared} {Q Q' : VK} {E E' : XK} {r : Result}
theorem env0_plus (c : CellU H s.heap (frs outer) C) (nb : ∀ b o, C b = some o → base.get? b = none) (e : Env0 P w K mg base A outer s H) : Env0 P w K mg base A outer s (plusC H C) :=
  ⟨e.frames, e.mod, fun b o z => ⟨(e.bs b o z).1, by
    cases q : C b with
    | some oc => rw [nb b oc q] at z; cases z
    | none => rw [plus_no q]; exact (e.bs b o z).2⟩, e.bsz, e.funs, fun b hb => by
    cases q : C b with
    | some oc => exact absurd hb (c.nf b oc q)
    | none => rw [plus_no q]; exact e.frf b hb, hok_plus c e.hok, e.bare⟩
theorem env0_minus (c : CellT H (frs outer) C) (e : Env0 P w K mg base A outer s H) : Env0 P w K mg base A outer s (minusC H C) :=
  ⟨e.frames, e.mod, fun b o z => ⟨(e.bs b o z).1, by rw [minus_no (c.no (e.bs b o z).2)]; exact (e.bs b o z).2⟩, e.bsz, e.funs, fun b hb => by rw [minus_no (c.no (e.frf b hb))]; exact e.frf b hb, hok_minus c.at_ e.hok, e.bare⟩
/-- LEND: a run under H and the cells is a run under H -/
theorem cr_lend (c : CellU H s.heap (frs outer) C) (hq : ∀ v H', (∀ b o, C b = some o → H' b = some (CelF o)) → Q' v H' → Q v (minusC H' C)) (he : ∀ cls d H', (∀ b o, C b = some o → H' b = some (CelF o)) → E' cls d H' → E cls d (minusC H' C))
    (h : CR (L2.CX P w) outer P w (plusC H C) s Q' E' r s') : CR (L2.CX P w) outer P w H s Q E r s' := by
  have nP : ∀ {b : Addr}, C b = none → H b = none → plusC H C b = none := fun q n => by rw [plus_no q]; exact n
  have sP : ∀ {b : Addr} {u : HO}, H b = some u → plusC H C b = some u := fun {b u} z => by rw [plus_no (c.no z)]; exact z
  have noFr : ∀ {b : Addr}, b ∈ frs outer → C b = none := fun {b} hb => by
    cases q : C b with
    | none => rfl
    | some o => exact absurd hb (c.nf b o q)
  match r with
  | .ok (.ret u) =>
    obtain ⟨v, H', os, bare, un, hok, rv, q⟩ := h
    have t : ∀ b o, C b = some o → H' b = some (CelF o) := fun b o z => un.frzs b o _ (plus_at z)
    have q := hq v H' t q
    refine ⟨v, minusC H' C, os, bare, ⟨fun b o e n hb hx => ?_, fun b o e n hb hx => un.slot b o e (nP (noFr hb) n) hb hx, fun b o e n hx => ?_, un.there, fun b xs e => ?_, fun b ob y e => ?_, fun b ps e => ?_⟩, hok_minus t hok, rv, q⟩
    · cases qc : C b with
      | none => exact un.keep b o e (nP qc n) hb hx
      | some oc =>
        have z := c.at_ b oc qc
        rw [e] at z
        cases z
        exact cel_at hok (t b o qc)
    · cases qc : C b with
      | none => rw [minus_no qc]; exact un.free b o e (nP qc n) hx
      | some oc => exact minus_at qc
    · rw [minus_no (c.no e)]; exact un.tups b xs (sP e)
    · rw [minus_no (c.no e)]; exact un.frzs b ob y (sP e)
    · obtain ⟨m, z⟩ := un.tbls b ps (sP e)
      exact ⟨m, by rw [minus_no (c.no e)]; exact z⟩
  | .ok .next => exact h.elim
  | .ok .brk => exact h.elim
  | .ok .cont => exact h.elim
  | .error e =>
    obtain ⟨a, B, H', cls, d, eu, fl, hok, ub, na, os, ag, q⟩ := h
    have t : ∀ b o, C b = some o → H' b = some (CelF o) := fun b o z => ub.frzs b o _ (plus_at z)
    have q := he cls d H' t q
    refine ⟨a, B, minusC H' C, cls, d, eu, fl, hok_minus t hok, ⟨fun b o e n hb => ?_, ub.slot, fun b o e n => ?_, ub.there, fun b xs e => ?_, fun b ob y e => ?_, fun b ps e => ?_⟩, ?_, os, ag, q⟩
    · cases qc : C b with
      | none => exact ub.keep b o e (nP qc n) hb
      | some oc =>
        have z := c.at_ b oc qc
        rw [e] at z
        cases z
        exact cel_at hok (t b o qc)
    · cases qc : C b with
      | none => rw [minus_no qc]; exact ub.free b o e (nP qc n)
      | some oc => exact minus_at qc
    · rw [minus_no (c.no e)]; exact ub.tups b xs (sP e)
    · rw [minus_no (c.no e)]; exact ub.frzs b ob y (sP e)
    · obtain ⟨m, z⟩ := ub.tbls b ps (sP e)
      exact ⟨m, by rw [minus_no (c.no e)]; exact z⟩
    · cases qc : C a with
      | none => rw [minus_no qc]; exact na
      | some oc => exact minus_at qc
/-- UNLEND: a run without the cells is a run with them -/
theorem cr_unlend (c : CellT H (frs outer) C) (hok0 : HOk P w H s.heap) (hq : ∀ v H', (∀ b o, C b = some o → H' b = none) → Q' v H' → Q v (plusC H' C)) (he : ∀ cls d H', (∀ b o, C b = some o → H' b = none) → E' cls d H' → E cls d (plusC H' C))
    (h : CR (L2.CX P w) outer P w (minusC H C) s Q' E' r s') : CR (L2.CX P w) outer P w H s Q E r s' := by
  have nM : ∀ {b : Addr}, H b = none → minusC H C b = none := fun {b} n => by rw [minus_no (c.no n)]; exact n
  have sM : ∀ {b : Addr} {u : HO}, H b = some u → C b = none → minusC H C b = some u := fun {b u} z n => by rw [minus_no n]; exact z
  match r with
  | .ok (.ret u) =>
    obtain ⟨v, H', os, bare, un, hok, rv, q⟩ := h
    have gone : ∀ b o, C b = some o → H' b = none := fun b o qc => un.free b o (cel_at hok0 (c.at_ b o qc)) (minus_at qc) (by simp)
    have cu : CellU H' s'.heap (frs outer) C := ⟨gone, fun b o qc => un.keep b o (cel_at hok0 (c.at_ b o qc)) (minus_at qc) (c.nf b o qc) (by simp), c.nf⟩
    refine ⟨v, plusC H' C, os, bare, ⟨fun b o e n hb hx => un.keep b o e (nM n) hb hx, fun b o e n hb hx => un.slot b o e (nM n) hb hx, fun b o e n hx => ?_, un.there, fun b xs e => ?_, fun b ob y e => ?_, fun b ps e => ?_⟩, hok_plus cu hok, rv, hq v H' gone q⟩
    · rw [plus_no (c.no n)]; exact un.free b o e (nM n) hx
    · have z := un.tups b xs (sM e (noF c.at_ e fun _ _ y => by cases y))
      rw [plus_no (cu.no z)]; exact z
    · cases qc : C b with
      | some oc =>
        rw [plus_at qc, ← c.at_ b oc qc]
        exact e
      | none =>
        have z := un.frzs b ob y (sM e qc)
        rw [plus_no qc]; exact z
    · obtain ⟨m, z⟩ := un.tbls b ps (sM e (noF c.at_ e fun _ _ y => by cases y))
      exact ⟨m, by rw [plus_no (cu.no z)]; exact z⟩
  | .ok .next => exact h.elim
  | .ok .brk => exact h.elim
  | .ok .cont => exact h.elim
  | .error e =>
    obtain ⟨a, B, H', cls, d, eu, fl, hok, ub, na, os, ag, q⟩ := h
    have gone : ∀ b o, C b = some o → H' b = none := fun b o qc => ub.free b o (cel_at hok0 (c.at_ b o qc)) (minus_at qc)
    have cu : CellU H' B (frs outer) C := ⟨gone, fun b o qc => ub.keep b o (cel_at hok0 (c.at_ b o qc)) (minus_at qc) (c.nf b o qc), c.nf⟩
    refine ⟨a, B, plusC H' C, cls, d, eu, fl, hok_plus cu hok, ⟨fun b o e n hb => ub.keep b o e (nM n) hb, ub.slot, fun b o e n => ?_, ub.there, fun b xs e => ?_, fun b ob y e => ?_, fun b ps e => ?_⟩, ?_, os, ag, he _ _ _ gone q⟩
    · rw [plus_no (c.no n)]; exact ub.free b o e (nM n)
    · have z := ub.tups b xs (sM e (noF c.at_ e fun _ _ y => by cases y))
      rw [plus_no (cu.no z)]; exact z
    · cases qc : C b with
      | some oc =>
        rw [plus_at qc, ← c.at_ b oc qc]
        exact e
      | none =>
        have z := ub.frzs b ob y (sM e qc)
        rw [plus_no qc]; exact z
    · obtain ⟨m, z⟩ := ub.tbls b ps (sM e (noF c.at_ e fun _ _ y => by cases y))
      exact ⟨m, by rw [plus_no (cu.no z)]; exact z⟩
    · cases qc : C a with
      | none => rw [plus_no qc]; exact na
      | some oc =>
        have z := cu.at_ a oc qc
        rw [fl.2.1] at z
        cases z
end
end DL

set_option maxRecDepth 100000
set_option maxHeartbeats 4000000
namespace DL
open PySem PySem.Spec PyProof.Rows L2 LamX NdefX DLX

/-! ### a lambda is made, where a table tells several code objects -/
section
variable {X : Cx} {pins : List (Addr × Obj)} {σ : L2.St} {H : Hp} {s : Shared}
abbrev lamS (X : Cx) (params : Arguments) (body : Expr) (scope : Scope) : CloS := ⟨"<lambda>", X.env.qual ++ "<lambda>", params, .expr body, scope⟩
theorem lam_makeN {T : List NTab} {nm : Nat → Nat → Str} {c P : Addr} {params : Arguments} {body : Expr} {scope : Scope} {pos : Pos} {E : Value → Shared → Prop} {Q : Value → Shared → Prop} (I : Inv X pins σ H s) (TB : TabB X.base X.mg c P) (hcode : X.env.code = .ref c)
    (hm : (P, nm) ∈ T) (hn : nm pos.line pos.col = X.env.qual ++ "<lambda>") (hu : ∀ p ∈ T, p.1 = P → p.2 = nm) (hT : TabsN T H) (hdef : defaultsOf params X.env = ([], [])) (hfree : ∀ y ∈ scope.names, y.2 = .free → ∃ c, X.env.cells.lookup y.1 = some c)
    (h : ∀ (f c' : Addr) (H1 : Hp) (s' : Shared), Inv X pins σ H1 s' → ExtN H H1 → (∀ b, H1 b = Option.none → H b = Option.none) → TabsN T H1 → H f = none → H1 f = some (CloO f (lamS X params body scope) (cloFrom X.env.cells scope.names []) c') → H1 c' = some (CodeO c' (X.env.qual ++ "<lambda>")) → Q (.ref f) s') :
    wpAny (model X.prog X.w) X.A (eval (.Lambda params body scope pos) X.env) Q E s := by
  obtain ⟨ps, hP, ht, ha⟩ := (show TabN H P nm from hT _ hm)
  refine PySem.W.kla_eval hdef ?_
  have bP : s.heap.BuiltinsAt X.mg P := TB.bm.keeps I.bk
  have hP' : s.heap.get? P = some { cls := .none, data := .fields ps } := I.hok P _ hP
  have clo : ∀ {H1 : Hp} {h1 : Heap} {g1 : Array GenState} {d1 : Drawn} {t1 : Nat} {os1 : OsState} {c' : Addr} {ctv pm : Value}, Inv X pins σ H1 ⟨h1, g1, d1, t1, os1⟩ →
      Inv X pins σ (upd H1 h1.objs.size (CloO h1.objs.size (lamS X params body scope) (cloFrom X.env.cells scope.names []) c')) ⟨h1.push (PySem.W.kla_obj "<lambda>" (X.env.qual ++ "<lambda>") params body scope (cloFrom X.env.cells scope.names []) pm c' ctv), g1, d1, t1, os1⟩ := fun {H1 h1 g1 d1 t1 os1 c' ctv pm} I1 => by
    refine I1.laid (a := h1.objs.size) (t' := t1) (h' := h1.push (PySem.W.kla_obj "<lambda>" (X.env.qual ++ "<lambda>") params body scope (cloFrom X.env.cells scope.names []) pm c' ctv)) (fun b u e => Heap.get?_push_of_some _ e) (Nat.le_refl _) ?_
    have e : (h1.push (PySem.W.kla_obj "<lambda>" (X.env.qual ++ "<lambda>") params body scope (cloFrom X.env.cells scope.names []) pm c' ctv)).get? h1.objs.size = some (PySem.W.kla_obj "<lambda>" (X.env.qual ++ "<lambda>") params body scope (cloFrom X.env.cells scope.names []) pm c' ctv) := Heap.get?_push_size _ rfl
    exact ⟨⟨_, _, _, pm, ctv, e⟩, ⟨_, e⟩, fun h1 h2 ⟨od, sl, d, p, t, z⟩ st => ⟨od, sl, d, p, t, st _ z⟩⟩
  cases hc : codeAmong pos ps.toList with
  | none =>
    refine PySem.W.kla_makeFunction (mg := X.mg) (c := c) (P := P) (ps := ps) (closure_ok hfree) I.ok.glob (I.mod.glob.keeps I.bk) hcode (TB.code.keeps I.bk) hP' ht hc TB.gP bP fun c' ctv h' tk hx hge hlt hrec htb => ?_
    obtain ⟨c2, oc, vs, t, e2, hoc, hd, hv⟩ := hrec
    cases e2
    have nC : H c' = none := I.hok.fresh hge
    have I1 := inv_table (t' := tk) (more := #[rawInt pos.line, rawInt pos.col, .ref c']) (h' := h') I hP (fun b o hb e => hx b o hb e) htb hge ⟨oc, vs, t, hoc, hd, hv⟩
    have hE : ExtN H (upd (upd H P (.tbl (ps ++ #[rawInt pos.line, rawInt pos.col, .ref c']))) c' (CodeO c' (X.env.qual ++ "<lambda>"))) := fun b o e n => by
      rw [upd_ne (ne_of_none e nC), upd_ne (fun z => n ps (Option.some.inj (e.symm.trans (by rw [z]; exact hP))))]
      exact e
    have eL : (ps ++ #[rawInt pos.line, rawInt pos.col, .ref c']).toList = ps.toList ++ [rawInt pos.line, rawInt pos.col, .ref c'] := by simp
    have T1 : TabsN T (upd (upd H P (.tbl (ps ++ #[rawInt pos.line, rawInt pos.col, .ref c']))) c' (CodeO c' (X.env.qual ++ "<lambda>"))) := fun p hp => by
      by_cases hb : p.1 = P
      · rw [hu p hp hb, hb]
        refine ⟨_, by rw [upd_ne (ne_of_none hP nC), upd_same], by rw [eL]; exact PySem.TriplesOk_snoc _ _ _ _ ht, fun p' cv hcv => ?_⟩
        rw [eL] at hcv
        rcases among_app2 _ ht hcv with z | ⟨z, z1, z2⟩
        · obtain ⟨c0, e1, e2⟩ := ha p' cv z
          exact ⟨c0, e1, hE _ _ e2 LamX.codeO_ne⟩
        · refine ⟨c', z, ?_⟩
          rw [← z1, ← z2, hn]
          exact upd_same
      · obtain ⟨ps', a1, a2, a3⟩ := hT p hp
        refine ⟨ps', by rw [upd_ne (ne_of_none a1 nC), upd_ne hb]; exact a1, a2, fun p' cv hcv => ?_⟩
        obtain ⟨c0, e1, e2⟩ := a3 p' cv hcv
        exact ⟨c0, e1, hE _ _ e2 LamX.codeO_ne⟩
    have nF := I1.hok.fresh (Nat.le_refl _)
    refine h h'.objs.size c' _ _ (clo I1) (fun b o e n => ?_) (fun b e => upd_none (upd_none (upd_none e))) (T1.ext fun b o e => ?_) (I.hok.fresh (Nat.le_trans hge (Nat.le_of_lt hlt))) upd_same ?_
    · have e1 := hE b o e n
      exact (upd_ne (ne_of_none e1 nF)).trans e1
    · exact (upd_ne (ne_of_none e nF)).trans e
    · exact (upd_ne (Nat.ne_of_lt hlt)).trans upd_same
  | some cv =>
    obtain ⟨c', e, hco⟩ := ha pos cv hc
    subst e
    rw [hn] at hco
    refine PySem.W.kla_makeFunctionHit (mg := X.mg) (c := c) (P := P) (ps := ps) (closure_ok hfree) I.ok.glob (I.mod.glob.keeps I.bk) hcode (TB.code.keeps I.bk) hP' ht hc bP fun ctv h' tk hx hsz => ?_
    have I1 : Inv X pins σ H { s with heap := h', toks := tk } := I.kept hx
    have nF : H h'.objs.size = none := I1.hok.fresh (Nat.le_refl _)
    refine h h'.objs.size c' _ _ (clo I1) (fun b o e n => ?_) (fun b e => upd_none e) (hT.ext fun b o e => ?_) nF upd_same ?_
    · exact (upd_ne (ne_of_none e nF)).trans e
    · exact (upd_ne (ne_of_none e nF)).trans e
    · exact (upd_ne (ne_of_none hco nF)).trans hco
end
end DL

set_option maxRecDepth 100000
set_option maxHeartbeats 4000000
namespace DL
open PySem PySem.Spec PyProof.Rows L2 LamX NdefX DLX

/-! ### closures that have cells of their own besides the captured ones -/
structure NScopeC (N ps fr : List Str) (sc : Scope) : Prop where
  kind : sc.kind = .function
  co : sc.isCoroutine = false
  gen : sc.isGenerator = false
  nd : N.Nodup
  pre : N.take (ps.length + fr.length) = ps ++ fr
  par : ∀ x ∈ ps, sc.names.lookup x = some .local ∨ sc.names.lookup x = some .cell
  nocell : ∀ y ∈ sc.names, y.2 = .cell → y.1 ∉ fr
  free : ∀ y ∈ sc.names, y.2 = .free → y.1 ∈ fr
  frk : ∀ x ∈ fr, sc.names.lookup x = some .free
def nscCB (N ps fr : List Str) (sc : Scope) : Bool :=
  decide (sc.kind = .function) && !sc.isCoroutine && !sc.isGenerator && decide N.Nodup && decide (N.take (ps.length + fr.length) = ps ++ fr) && ps.all (fun x => decide (sc.names.lookup x = some .local) || decide (sc.names.lookup x = some .cell)) && sc.names.all (fun y => !decide (y.2 = .cell) || decide (y.1 ∉ fr)) && sc.names.all (fun y => !decide (y.2 = .free) || decide (y.1 ∈ fr)) && fr.all (fun x => decide (sc.names.lookup x = some .free))
theorem nscopeC_by {N ps fr : List Str} {sc : Scope} (h : nscCB N ps fr sc = true) : NScopeC N ps fr sc := by
  unfold nscCB at h
  simp only [Bool.and_eq_true, Bool.not_eq_true', decide_eq_true_eq, List.all_eq_true, Bool.or_eq_true, decide_eq_false_iff_not] at h
  obtain ⟨⟨⟨⟨⟨⟨⟨⟨h1, h2⟩, h3⟩, h4⟩, h5⟩, h6⟩, h7⟩, h8⟩, h9⟩ := h
  exact ⟨h1, h2, h3, h4, h5, h6, fun y hy e => (h7 y hy).elim (fun z => absurd e z) id, fun y hy e => (h8 y hy).elim (fun z => absurd e z) id, h9⟩
theorem cellsFrom_app : ∀ (names : List (Str × NameKind)) (n : Nat) (acc cl : List (Str × Addr)), cellsFrom n names (acc ++ cl) = cellsFrom n names acc ++ cl
  | [], _, _, _ => rfl
  | (x, k) :: r, n, acc, cl => by
    unfold cellsFrom
    split
    · exact cellsFrom_app r (n + 1) ((x, n) :: acc) cl
    · exact cellsFrom_app r n acc cl
theorem cellsFrom_out {x : Str} : ∀ (names : List (Str × NameKind)) (n : Nat) (acc : List (Str × Addr)), (x, NameKind.cell) ∉ names → (cellsFrom n names acc).lookup x = acc.lookup x
  | [], _, _, _ => rfl
  | (y, k) :: r, n, acc, h => by
    unfold cellsFrom
    have h2 : (x, NameKind.cell) ∉ r := fun z => h (List.mem_cons_of_mem _ z)
    split
    · rename_i hk
      rw [cellsFrom_out r _ _ h2, List.lookup_cons]
      have : (x == y) = false := beq_eq_false_iff_ne.mpr fun e => h (by rw [e, ← beq_iff_eq.mp hk]; exact List.mem_cons_self)
      rw [this]
    · exact cellsFrom_out r _ _ h2
section
variable {M : Model} {A : Around} {E : Value → Shared → Prop} {s₀ s : Shared} {m cm : Str → Option Value} {env : Env} {cs : List (Str × Addr)}
theorem stLC2 {n : Str} {v : Value} {Q : Unit → Shared → Prop} (x : InCallC s₀ env.locals m cs cm s) (hk : env.scope.kind = .function) (hl : env.kindOf n = some .local)
    (h : ∀ s', InCallC s₀ env.locals (fun y => if y = n then some v else m y) cs cm s' → Q () s') : wpAny M A (storeName env n v) Q E s := by
  refine wpAny_storeName_local hl x.toInCall.ns (fun h' hn' hs' => h _ ⟨⟨?_, hn', fun b o e => ?_, x.toInCall.fresh⟩, fun k c hc => ?_, x.apart, x.above⟩) (by rw [hk]; rfl)
  · obtain ⟨h₁, tk, rfl⟩ := x.toInCall.same
    exact ⟨h', _, rfl⟩
  · exact hs'.extBut b o (Nat.ne_of_lt (Nat.lt_of_lt_of_le (Heap.lt_size e) x.toInCall.fresh)) (x.toInCall.keep b o e)
  · exact (x.cell k c hc).sameBut hs' (Nat.ne_of_gt (x.above k c (PySem.mem_of_lookup hc)))
theorem stCC2 {n : Str} {c : Addr} {v : Value} {Q : Unit → Shared → Prop} (x : InCallC s₀ env.locals m cs cm s) (hk : env.scope.kind = .function) (hl : env.kindOf n = some .cell)
    (hc : cs.lookup n = some c) (hc2 : env.cells.lookup n = some c)
    (h : ∀ s', InCallC s₀ env.locals m cs (fun y => if y = n then some v else cm y) s' → Q () s') : wpAny M A (storeName env n v) Q E s := by
  have hLc := x.above n c (PySem.mem_of_lookup hc)
  refine wpAny_storeName_cell hk hl hc2 (x.cell n c hc) fun h' hc' hs' => h _ ⟨⟨?_, x.toInCall.ns.sameBut hs' (Nat.ne_of_lt hLc), fun b o e => ?_, x.toInCall.fresh⟩, fun k c' hk' => ?_, x.apart, x.above⟩
  · obtain ⟨h₁, tk, rfl⟩ := x.toInCall.same
    exact ⟨h', _, rfl⟩
  · exact hs'.extBut b o (Nat.ne_of_lt (Nat.lt_trans (Nat.lt_of_lt_of_le (Heap.lt_size e) x.toInCall.fresh) hLc)) (x.toInCall.keep b o e)
  · by_cases hkn : k = n
    · subst hkn
      rw [hc] at hk'; cases hk'
      simpa using hc'
    · rw [if_neg hkn]
      exact (x.cell k c' hk').sameBut hs' fun e => hkn (name_of_addr x.apart (PySem.mem_of_lookup hk') (e ▸ PySem.mem_of_lookup hc))
theorem bindParams2 (f : Str × Value → PUnit → Sem (ForInStep PUnit)) (hf : ∀ n v u, f (n, v) u = (do storeName env n v; pure (.yield ⟨⟩))) (hk : env.scope.kind = .function) (hcs : ∀ n c, cs.lookup n = some c → env.cells.lookup n = some c) :
    ∀ (binds : List (Str × Value)) (m cm : Str → Option Value) (s : Shared) (Q : PUnit → Shared → Prop), InCallC s₀ env.locals m cs cm s →
      (∀ x ∈ binds, env.kindOf x.1 = some .local ∨ (env.kindOf x.1 = some .cell ∧ (cs.lookup x.1).isSome = true)) →
      (∀ s', InCallC s₀ env.locals (bindL env.kindOf binds m) cs (bindC env.kindOf binds cm) s' → Q ⟨⟩ s') → wpAny M A (forIn binds ⟨⟩ f) Q E s
  | [], m, cm, s, Q, x, _, h => by rw [List.forIn_nil]; exact wpAny_pure (h s x)
  | (n, v) :: r, m, cm, s, Q, x, hkind, h => by
    rw [List.forIn_cons, hf]
    have hr : ∀ y ∈ r, env.kindOf y.1 = some .local ∨ (env.kindOf y.1 = some .cell ∧ (cs.lookup y.1).isSome = true) := fun y hy => hkind y (List.mem_cons_of_mem _ hy)
    rcases hkind (n, v) List.mem_cons_self with hl | ⟨hl, hc⟩
    · refine wpAny_bind (wpAny_bind (stLC2 x hk hl fun s' x' => wpAny_pure (bindParams2 f hf hk hcs r _ _ s' Q x' hr fun s'' x'' => h s'' ?_)))
      unfold bindL bindC; rw [if_pos hl, if_pos hl]; exact x''
    · obtain ⟨c, hc⟩ := Option.isSome_iff_exists.mp hc
      have hnl : ¬ env.kindOf n = some .local := by rw [hl]; decide
      refine wpAny_bind (wpAny_bind (stCC2 x hk hl hc (hcs _ _ hc) fun s' x' => wpAny_pure (bindParams2 f hf hk hcs r _ _ s' Q x' hr fun s'' x'' => h s'' ?_)))
      unfold bindL bindC; rw [if_neg hnl, if_neg hnl]; exact x''
theorem newFunctionEnv2 {scope : Scope} {globals : Addr} {closure : List (Str × Addr)} {binds : List (Str × Value)} {qual : Str} {func : Option Addr} {code : Value} {builtins : Addr} {Q : Env → Shared → Prop}
    (hk : scope.kind = .function)
    (hkind : ∀ x ∈ binds, scope.names.lookup x.1 = some .local ∨ (scope.names.lookup x.1 = some .cell ∧ ((cellsFrom (s.heap.objs.size + 1) scope.names []).lookup x.1).isSome = true))
    (hQ : ∀ env, env = newEnv scope s.heap.objs.size globals (cellsFrom (s.heap.objs.size + 1) scope.names [] ++ closure) qual func code none builtins →
      ∀ s', InCallC s env.locals (bindL env.kindOf binds fun _ => none) (cellsFrom (s.heap.objs.size + 1) scope.names []) (bindC env.kindOf binds fun _ => none) s' → Q env s') :
    wpAny M A (newFunctionEnv scope globals closure binds qual func code none builtins) Q E s := by
  simp only [newFunctionEnv, Option.isSome_none, Bool.false_eq_true, if_false]
  refine wpAny_bind (wpAny_alloc ?_)
  refine wpAny_bind (wpAny_layCells _ (fun name kind cells => by cases hkc : kind == NameKind.cell <;> simp [hkc]) _ _ _ _ ?_)
  have ok := cellsFrom_ok scope.names (s.heap.push { cls := .type "frame", data := .dict #[] }) (s.heap.objs.size + 1) [] ⟨fun _ _ hm => (nomatch hm), List.Pairwise.nil⟩ (by rw [Heap.size_push]; exact Nat.le_refl _)
  rw [Heap.size_push] at ok
  rw [show ({ s with heap := s.heap.push { cls := .type "frame", data := .dict #[] } } : Shared).heap.objs.size = s.heap.objs.size + 1 from Heap.size_push ..]
  rw [show cellsFrom (s.heap.objs.size + 1) scope.names closure = cellsFrom (s.heap.objs.size + 1) scope.names [] ++ closure from cellsFrom_app scope.names _ [] closure]
  refine wpAny_bind (bindParams2 (s₀ := s) (env := newEnv scope s.heap.objs.size globals (cellsFrom (s.heap.objs.size + 1) scope.names [] ++ closure) qual func code none builtins)
    _ (fun _ _ _ => rfl) hk (fun n c h => ?_) binds (fun _ => none) (fun _ => none) _ _
    ⟨⟨⟨_, _, rfl⟩, (Heap.Ns.new s.heap (.type "frame")).keeps (pushCells_keeps _ _), fun b o e => pushCells_keeps _ _ b o (Heap.get?_push_of_some _ e), Nat.le_refl _⟩,
      fun n c hc => (ok.empty n c (PySem.mem_of_lookup hc)).1, ok.apart, fun n c hm => (ok.empty n c hm).2⟩
    hkind fun s' x => wpAny_pure (hQ _ rfl s' x))
  show (cellsFrom (s.heap.objs.size + 1) scope.names [] ++ closure).lookup n = some c
  rw [List.lookup_append, h]
  rfl
end
section
variable {CX : CXT} {P : Program} {w : World} {K : PySem.W.Frag} {mg : Str → Option Value} {base : Heap} {N ps fr : List Str} {F : NF} {f : Addr} {A : Around} {outer : List Env} {s s1 : Shared} {H : Hp} {E : XK} {us : List Value} {vs : List V} {ws : List (Option V)}
/-- the function with the frame's own cells in front -/
abbrev nfc (F : NF) (L : Addr) : NF := { F with cl := cellsFrom (L + 1) F.scope.names [] ++ F.cl }
theorem inv_startC (S : NScopeC N ps fr F.scope) (hd : A.handled = none) (e0 : Env0 P w K mg base A outer s H) (hl : vs.length = ps.length) (r : Vals vs us) (C : CellsAt F.cl fr ws s.heap H)
    (x : InCallC s s.heap.objs.size (bindL (envF (nfc F s.heap.objs.size) f s.heap.objs.size).kindOf (ps.zip us) fun _ => none) (cellsFrom (s.heap.objs.size + 1) F.scope.names []) (bindC (envF (nfc F s.heap.objs.size) f s.heap.objs.size).kindOf (ps.zip us) fun _ => none) s1) :
    Inv (ncx CX P w K mg base N (nfc F s.heap.objs.size) f A outer s H E) [] (startF N vs ws) H s1 := by
  have hpl : ps.length + fr.length ≤ N.length := by
    have q := congrArg List.length S.pre
    rw [List.length_take, List.length_append] at q
    omega
  obtain ⟨h1, tk, rfl, hk⟩ := x.done
  have noA : ∀ b : Addr, b ∉ (ncx CX P w K mg base N (nfc F s.heap.objs.size) f A outer s H E).ex := fun b z => absurd (show b ∈ ([] : List Addr) from z) (by simp)
  have cellK : ∀ {c : Addr} {v : Option Value}, s.heap.IsCell c v → h1.IsCell c v := fun {c v} ⟨o, ho, hd⟩ => ⟨o, hk _ _ ho, hd⟩
  have app : ∀ {y : Str} {c : Addr}, (cellsFrom (s.heap.objs.size + 1) F.scope.names [] ++ F.cl).lookup y = some c → (cellsFrom (s.heap.objs.size + 1) F.scope.names []).lookup y = some c ∨ ((cellsFrom (s.heap.objs.size + 1) F.scope.names []).lookup y = none ∧ F.cl.lookup y = some c) := fun {y c} h => by
    rw [List.lookup_append] at h
    cases e : (cellsFrom (s.heap.objs.size + 1) F.scope.names []).lookup y with
    | some c' =>
      rw [e] at h
      exact .inl h
    | none =>
      rw [e] at h
      exact .inr ⟨rfl, h⟩
  have inOwn : ∀ {y : Str} {c : Addr}, (cellsFrom (s.heap.objs.size + 1) F.scope.names []).lookup y = some c → (cellsFrom (s.heap.objs.size + 1) F.scope.names [] ++ F.cl).lookup y = some c := fun {y c} h => by
    rw [List.lookup_append, h]
    rfl
  have outOwn : ∀ {y : Str}, y ∈ fr → (cellsFrom (s.heap.objs.size + 1) F.scope.names []).lookup y = none := fun {y} hy => by
    rw [cellsFrom_out _ _ _ fun z => S.nocell _ z rfl hy]
    rfl
  have inCl : ∀ {y : Str} {c : Addr}, y ∈ fr → F.cl.lookup y = some c → (cellsFrom (s.heap.objs.size + 1) F.scope.names [] ++ F.cl).lookup y = some c := fun {y c} hy h => by
    rw [List.lookup_append, outOwn hy]
    exact h
  have ownGe : ∀ {y : Str} {c : Addr}, (cellsFrom (s.heap.objs.size + 1) F.scope.names []).lookup y = some c → s.heap.objs.size < c := fun {y c} h => x.above y c (PySem.mem_of_lookup h)
  have clLt : ∀ {y : Str} {c : Addr}, F.cl.lookup y = some c → c < s.heap.objs.size := fun {y c} h => by
    obtain ⟨_, v, z⟩ := C.all y c h
    exact z.lt
  refine ⟨⟨e0.mod, S.kind, rfl, rfl, Nat.le_refl _, fun y z c h1 h2 => ?_, fun y hy => ?_, fun y c z _ => ?_, fun _ => hd, Around.frames_deeper e0.frames, .inr ⟨rfl, rfl⟩, fun b z => absurd z (noA b), e0.bs, e0.bsz, fun b _ _ => noA b,
      fun b z => absurd z (noA b), e0.funs, e0.frf⟩,
    rfl, e0.bare, Un.kept hk, ⟨_, x.toInCall.ns, fun i y v e1 e2 e3 => ?_⟩, fun y c e => ?_, e0.hok.fresh (Nat.le_refl _), fun y c e => ?_, fun q hq => absurd (show q ∈ ([] : List (Addr × Obj)) ++ [] from hq) (by simp), e0.hok.kept hk, ?_⟩
  · rcases app h1 with a | ⟨_, a⟩ <;> rcases app h2 with b | ⟨_, b⟩
    · exact name_of_addr x.apart (PySem.mem_of_lookup a) (PySem.mem_of_lookup b)
    · exact absurd (Nat.lt_trans (clLt b) (ownGe a)) (Nat.lt_irrefl _)
    · exact absurd (Nat.lt_trans (clLt a) (ownGe b)) (Nat.lt_irrefl _)
    · exact C.inj _ _ _ a b
  · have hy : F.scope.names.lookup y = some .cell ∨ F.scope.names.lookup y = some .free := hy
    rcases hy with hy | hy
    · obtain ⟨c, h⟩ := cell_has (n := s.heap.objs.size + 1) hy
      exact ⟨c, inOwn h⟩
    · have hm := S.free _ (PySem.mem_of_lookup hy) rfl
      obtain ⟨i, hi⟩ := List.mem_iff_getElem?.mp hm
      obtain ⟨c, hc, _⟩ := C.has i y hi
      exact ⟨c, inCl hm hc⟩
  · have z : false = true := z
    cases z
  · have e1 : N[i]? = some y := e1
    have clen := C.len
    unfold startF at e2
    by_cases h1 : i < ps.length
    · have hq : (ps ++ fr)[i]? = some y := by
        rw [← S.pre, List.getElem?_take_of_lt (by omega)]
        exact e1
      rw [List.getElem?_append_left h1] at hq
      rw [List.getElem?_append_left (by rw [List.length_map]; omega), List.getElem?_map] at e2
      have ha : vs[i]? = some v := by
        cases e : vs[i]? with
        | none => rw [e] at e2; cases e2
        | some a => rw [e] at e2; cases e2; rfl
      obtain ⟨u, hu, rv⟩ := r.get ha
      have ndP : ps.Nodup := by
        have q := S.nd.sublist (List.take_sublist (ps.length + fr.length) N)
        rw [S.pre] at q
        exact (List.nodup_append.mp q).1
      refine ⟨u, rv, ?_⟩
      rcases S.par y (List.mem_of_getElem? hq) with k | k
      · exact .inl ⟨k, bindL_get ndP hq hu k⟩
      · obtain ⟨c, e⟩ := cell_has (n := s.heap.objs.size + 1) k
        refine .inr ⟨.inl k, c, inOwn e, ?_⟩
        have q := x.cell y c e
        rw [bindC_get ndP hq hu (by show F.scope.names.lookup y ≠ _; rw [k]; decide)] at q
        exact q
    · rw [List.getElem?_append_right (by rw [List.length_map]; omega), List.length_map] at e2
      by_cases h2 : i < ps.length + fr.length
      · have hq : (ps ++ fr)[i]? = some y := by
          rw [← S.pre, List.getElem?_take_of_lt (by omega)]
          exact e1
        rw [List.getElem?_append_right (by omega)] at hq
        rw [List.getElem?_append_left (by omega), hl] at e2
        have hm := List.mem_of_getElem? hq
        obtain ⟨c, hc, hv⟩ := C.has (i - ps.length) y hq
        obtain ⟨u, ru, hu⟩ := hv v e2
        exact ⟨u, ru, .inr ⟨.inr (S.frk y hm), c, inCl hm hc, cellK hu⟩⟩
      · rw [List.getElem?_append_right (by omega), List.getElem?_replicate] at e2
        split at e2 <;> cases e2
  · rcases app e with a | ⟨_, a⟩
    · exact ⟨_, x.cell y c a⟩
    · obtain ⟨v, z⟩ := (C.all y c a).2
      exact ⟨v, cellK z⟩
  · rcases app e with a | ⟨_, a⟩
    · exact e0.hok.fresh (Nat.le_of_lt (ownGe a))
    · exact (C.all y c a).1
  · have clen := C.len
    unfold startF
    show _ = N.length
    rw [List.length_append, List.length_append, List.length_map, List.length_replicate]
    omega
end
end DL

set_option maxRecDepth 100000
set_option maxHeartbeats 4000000
namespace DL
open PySem PySem.Spec PyProof.Rows L2 LamX NdefX DLX

/-! ### a closure, by its body -/
/-- n parameters; js: where the captured names stand among the maker's; m further names; what the body does -/
structure CloT where
  n : Nat
  js : List Nat
  m : Nat
  t : TSt
def capS : Option Sl → Sl
  | some (.v d) => .v d
  | _ => .u
def CloT.start (c : CloT) (ss : SS) (ds : List D) : SS := ds.map Sl.v ++ (c.js.map (fun j => capS ss[j]?) ++ List.replicate c.m .u)
def CloT.run (c : CloT) (ss : SS) (ds : List D) (Q : D → Prop) (Qx : Err → Prop) : Prop := ds.length = c.n ∧ c.t (endsD Q Qx) (c.start ss ds)
/-- what a call of a function's value does -/
abbrev Ap := D → List D → (D → Prop) → (Err → Prop) → Prop
/-- .. of the running frame's closures -/
def apF (tb : Nat → Option CloT) (cs : List (Str × Addr)) (ss : SS) : Ap := fun d ds Q Qx => match d with
  | .clo k cs' => cs' = cs ∧ match tb k with
    | some c => c.run ss ds Q Qx
    | none => False
  | _ => False
abbrev CloS.nf (S : CloS) (cl : List (Str × Addr)) (c : Addr) : NF := ⟨S.name, S.qual, S.params, [], S.scope, cl, c⟩
abbrev CloS.fd (S : CloS) (cl : List (Str × Addr)) (c : Addr) (doc pm ctv : Value) : FuncData := { name := S.name, qualname := S.qual, params := S.params, body := S.body, scope := S.scope, globals := mainGlobals, closure := cl, defaults := .none, kwdefaults := .none, doc := doc, pyModule := pm, annotations := none, code := .ref c, closureTuple := ctv, builtins := builtinsNs }
def BodyOk (X : Cx) (P : Gl0) (g : G) : FuncBody → TSt → Prop
  | .expr e, t => ∃ te, t = vRet te ∧ DE X P g e te
  | .stmts b, t => DSs X P g b t
/-- what is known of a closure's words -/
structure CloB (Pr : Program) (w : World) (K : PySem.W.Frag) (mg : Str → Option Value) (base : Heap) (P : Gl0) (gp : B → Prop) (k : Nat) (S : CloS) (N ps fr : List Str) (c : CloT) : Prop where
  sc : NScopeC N ps fr S.scope
  np : ps.length = c.n
  nf : c.js.length = fr.length
  nn : N.length = c.n + (c.js.length + c.m)
  bind : ∀ (cl : List (Str × Addr)) (c' : Addr) (doc pm ctv : Value) (us : List Value), us.length = ps.length → bindArgs (S.fd cl c' doc pm ctv) ⟨us, []⟩ = pure (ps.zip us)
  body : ∀ (g : G), gp g.toB → ∀ (cl : List (Str × Addr)) (c' f : Addr) (A : Around) (outer : List Env) (s : Shared) (H : Hp) (E : XK), Room k (A.deeper (envF (S.nf cl c') f s.heap.objs.size)) → (A.deeper (envF (S.nf cl c') f s.heap.objs.size)).guards = some [] →
    BodyOk (ncx (L2.CX Pr w) Pr w K mg base N (S.nf cl c') f A outer s H E) P g S.body c.t
section
variable {Pr : Program} {w : World} {K : PySem.W.Frag} {mg : Str → Option Value} {base : Heap} {P : Gl0} {gp : B → Prop} {k : Nat} {S : CloS} {N ps fr : List Str} {c : CloT}
theorem capS_own {o : Option Sl} {d : D} : capS o ≠ .own d := by
  unfold capS
  split <;> exact fun z => by cases z
theorem capS_v {o : Option Sl} {d : D} (h : capS o = .v d) : o = some (.v d) := by
  unfold capS at h
  split at h
  · cases h; rfl
  · cases h
theorem clo_run {A : Around} {outer : List Env} {s : Shared} {H : Hp} {f c' : Addr} {cl : List (Str × Addr)} {us : List Value} {vs : List V} {ds : List D} {ws : List (Option V)} {caps : List Sl} {g : G} {Q : D → Prop} {Qx : Err → Prop} {QV : VK} {XE : XK}
    (CB : CloB Pr w K mg base P gp k S N ps fr c) (hr : Room (k + 1) A) (hgd : A.guards = some []) (e0 : Env0 Pr w K mg base A outer s H) (hgp : gp g.toB) (hf : H f = some (CloO f S cl c')) (hc : H c' = some (CodeO c' S.qual))
    (C : CellsAt cl fr ws s.heap H) (r : Vals vs us) (sg : SG P g g.M H) (dl : DenL P g g.M H vs ds) (hcl : caps.length = ws.length) (hno : ∀ (i : Nat) (d : D), caps[i]? ≠ some (.own d)) (hcap : ∀ (i : Nat) (d : D), caps[i]? = some (.v d) → ∃ v, ws[i]? = some (some v) ∧ Den P g g.M H v d)
    (hds : ds.length = c.n) (ht : c.t (endsD Q Qx) (ds.map Sl.v ++ (caps ++ List.replicate c.m .u)))
    (hq : ∀ v H' d, Ext g.W H H' → SG P g g.M H' → Den P g g.M H' v d → Q d → QV v H') (hx : ∀ cls dd H' e, Ext g.W H H' → SG P g g.M H' → ErrD P g g.M H' cls dd e → Qx e → XE cls dd H') :
    codeAny (model Pr w) A (.call (.ref f) ⟨us, []⟩) (CR (L2.CX Pr w) outer Pr w H s QV XE) s := by
  have hvl : vs.length = ps.length := by rw [dl.length, hds, CB.np]
  have hul : us.length = ps.length := by rw [← r.length]; exact hvl
  have lim : s.heap.NoLimit := e0.mod.nolimit.keeps fun b o e => (e0.bs b o e).1
  obtain ⟨⟨od, sl, doc, pm, ctv, ho⟩, _, _⟩ := e0.hok f _ hf
  have wsl := C.len
  have nn := CB.nn
  have njs := CB.nf
  have np := CB.np
  have S0 : Stt P g E00 H (ds.map Sl.v ++ (caps ++ List.replicate c.m .u)) (startF N vs ws) H := by
    have dll := dl.length
    refine stt_of ?_ sg (fun i d h => ?_) (fun i d h => ?_)
    · unfold startF
      simp only [List.length_append, List.length_map, List.length_replicate]
      omega
    · rcases List.mem_append.mp (List.mem_of_getElem? h) with hm | hm
      · obtain ⟨_, _, z⟩ := List.mem_map.mp hm
        cases z
      · rcases List.mem_append.mp hm with hm | hm
        · obtain ⟨j, hj⟩ := List.mem_iff_getElem?.mp hm
          exact hno j d hj
        · cases (List.mem_replicate.mp hm).2
    · unfold startF
      by_cases h1 : i < ds.length
      · rw [List.getElem?_append_left (by rw [List.length_map]; exact h1), List.getElem?_map] at h
        obtain ⟨d', q1, q2⟩ := Option.map_eq_some_iff.mp h
        cases q2
        obtain ⟨v, q3, q4⟩ := dl.get q1
        exact ⟨v, by rw [List.getElem?_append_left (by rw [List.length_map]; omega), List.getElem?_map, q3] <;> rfl, q4⟩
      · rw [List.getElem?_append_right (by rw [List.length_map]; omega), List.length_map] at h
        rw [List.getElem?_append_right (by rw [List.length_map]; omega), List.length_map, dll]
        by_cases h2 : i - ds.length < caps.length
        · rw [List.getElem?_append_left h2] at h
          obtain ⟨v, q1, q2⟩ := hcap _ d h
          exact ⟨v, by rw [List.getElem?_append_left (by omega)]; exact q1, q2⟩
        · rw [List.getElem?_append_right (by omega)] at h
          cases (List.mem_replicate.mp (List.mem_of_getElem? h)).2
  have key : ∀ {σ : L2.St} {ss : SS} {H' : Hp} {v : V} {d : D}, Stt P g E00 H ss σ H' → Den P g g.M H' v d → Q d → QV v H' := fun S' n q => hq _ _ _ S'.grow (S'.sg.sub fun a r => .inl r) n q
  have T : ∀ {h₁ : Heap} {tk : Nat}, TX (ncx (L2.CX Pr w) Pr w K mg base N (S.nf (cellsFrom (s.heap.objs.size + 1) S.scope.names [] ++ cl) c') f A outer s H XE) P g E00 H (fun e _ => Qx e) := fun {h₁ tk} =>
    .inr ((takes_of rfl rfl rfl rfl).imp fun cls dd σ H' ⟨err, ss, S', h1, h2⟩ => hx cls dd H' err S'.grow (S'.sg.sub fun a r => .inl r) (ErrD.mv (Mv.sub fun a r => .inl r) h1) h2)
  have hkind : ∀ y ∈ ps.zip us, S.scope.names.lookup y.1 = some .local ∨ (S.scope.names.lookup y.1 = some .cell ∧ ((cellsFrom (s.heap.objs.size + 1) S.scope.names []).lookup y.1).isSome = true) := fun ⟨n, v⟩ hy => by
    rcases CB.sc.par n (List.of_mem_zip hy).1 with q | q
    · exact .inl q
    · exact .inr ⟨q, PySem.W.cellsFrom_some _ _ _ (.inl q)⟩
  have B := CB.body g hgp (cellsFrom (s.heap.objs.size + 1) S.scope.names [] ++ cl) c' f A outer s H XE (hr.deeper _) (deeper_guards hgd)
  have hbind := CB.bind cl c' doc pm ctv us hul
  cases hb : S.body with
  | expr e =>
    rw [hb] at B
    obtain ⟨te, ete, B⟩ := B
    refine PySem.W.kla_callFunE (body := e) hr.depth ho rfl CB.sc.co CB.sc.gen hb (codeO_at e0.hok hc) ?_
    rw [hbind]
    refine wpAny_pure (newFunctionEnv2 CB.sc.kind hkind fun env he s1 x => ?_)
    subst he
    refine ⟨lim.keeps x.toInCall.keep, ?_⟩
    show codeAny _ _ (.expr e (envF (nfc (S.nf cl c') s.heap.objs.size) f s.heap.objs.size)) _ _
    have I : Inv (ncx (L2.CX Pr w) Pr w K mg base N (nfc (S.nf cl c') s.heap.objs.size) f A outer s H XE) [] (startF N vs ws) H s1 := inv_startC CB.sc hr.hd e0 hvl r C x
    rw [ete] at ht
    refine PySem.W.kla_codeExpr (wpAny_mono (B.run [] _ _ H E00 H _ Q (fun e _ => Qx e) I S0 (T (h₁ := s.heap) (tk := 0)) ht) (fun v s' hq' => ?_) fun e s' hq' => hq')
    obtain ⟨w', H', J', rv, d, S', _, n, q⟩ := hq'
    exact ⟨w', H', J'.os, J'.bare, J'.base, J'.hok, rv, key S' (Den.mv (Mv.sub fun a r => .inl r) n) q⟩
  | stmts b =>
    rw [hb] at B
    refine codeAny_call_function (body := b) hr.depth ho rfl CB.sc.co CB.sc.gen hb (codeO_at e0.hok hc) ?_
    rw [hbind]
    refine wpAny_pure (newFunctionEnv2 CB.sc.kind hkind fun env he s1 x => ?_)
    subst he
    refine ⟨lim.keeps x.toInCall.keep, ?_⟩
    show codeAny _ _ (.func b (envF (nfc (S.nf cl c') s.heap.objs.size) f s.heap.objs.size)) _ _
    refine codeAny_func ?_
    have I : Inv (ncx (L2.CX Pr w) Pr w K mg base N (nfc (S.nf cl c') s.heap.objs.size) f A outer s H XE) [] (startF N vs ws) H s1 := inv_startC CB.sc hr.hd e0 hvl r C x
    refine wpAny_mono (B.run [] _ _ H E00 H _ (endsD Q Qx) I S0 (T (h₁ := s.heap) (tk := 0)) ht) (fun fl s' hs => ?_) fun e s' hs => hs
    cases fl with
    | ret u =>
      obtain ⟨v, σ', H', J, rv, d, σ2, ss2, S', n, q⟩ := hs
      exact ⟨v, H', J.os, J.bare, J.base, J.hok, rv, key S' (Den.mv (Mv.sub fun a r => .inl r) n) q⟩
    | next =>
      obtain ⟨σ', H', J, ss2, S', q⟩ := hs
      exact ⟨.non, H', J.os, J.bare, J.base, J.hok, rfl, key S' .non q⟩
    | brk => obtain ⟨_, _, _, _, _, q⟩ := hs; exact q.elim
    | cont => obtain ⟨_, _, _, _, _, q⟩ := hs; exact q.elim
end
end DL

set_option maxRecDepth 100000
set_option maxHeartbeats 4000000
namespace DL
open PySem PySem.Spec PyProof.Rows L2 LamX NdefX DLX

/-! ### functions that are handed on -/
/-- calls of values do as ap says, where g's frame holds -/
structure ApOk (Pr : Program) (w : World) (K : PySem.W.Frag) (mg : Str → Option Value) (base : Heap) (P : Gl0) (g : G) (k : Nat) (ap : Ap) : Prop where
  run : ∀ (A : Around) (outer : List Env) (s : Shared) (H : Hp) (R : Addr → Prop) (hW : ∀ a, g.W a → R a) (v : V) (u : Value) (d : D) (us : List Value) (vs : List V) (ds : List D) (Q : D → Prop) (Qx : Err → Prop) (QV : VK) (XE : XK), Room k A → A.guards = some [] → Env0 Pr w K mg base A outer s H → SG P g R H →
    Den P g R H v d → RelV v u → DenL P g R H vs ds → Vals vs us → ap d ds Q Qx →
    (∀ v H' d, Ext g.W H H' → SG P g R H' → Den P g R H' v d → Q d → QV v H') → (∀ cls dd H' e, Ext g.W H H' → SG P g R H' → ErrD P g R H' cls dd e → Qx e → XE cls dd H') →
    ∃ f, u = .ref f ∧ PySem.W.FnAt f s.heap ∧ codeAny (model Pr w) A (.call (.ref f) ⟨us, []⟩) (CR (L2.CX Pr w) outer Pr w H s QV XE) s
theorem ApOk.mono {Pr : Program} {w : World} {K : PySem.W.Frag} {mg : Str → Option Value} {base : Heap} {P : Gl0} {g : G} {j k : Nat} {ap : Ap} (h : ApOk Pr w K mg base P g j ap) (hjk : j ≤ k) : ApOk Pr w K mg base P g k ap :=
  ⟨fun A outer s H R hW v u d us vs ds Q Qx QV XE hr => h.run A outer s H R hW v u d us vs ds Q Qx QV XE (hr.mono hjk)⟩

section
variable {H H1 H' : Hp} {C : Addr → Option Obj} {W : Addr → Prop} {T : List NTab}
theorem tabs_minus (t : ∀ b o, C b = some o → H b = some (CelF o)) (h : TabsN T H) : TabsN T (minusC H C) := fun q hq => by
  obtain ⟨ps, q1, q2, q3⟩ := h q hq
  refine ⟨ps, by rw [minus_no (noF t q1 fun _ _ z => by cases z)]; exact q1, q2, fun pos cv hc => ?_⟩
  obtain ⟨c', e1, e2⟩ := q3 pos cv hc
  exact ⟨c', e1, by rw [minus_no (noF t e2 fun _ _ z => by unfold CodeO at z; cases z)]; exact e2⟩
theorem tabs_plus (n : ∀ b o, C b = some o → H b = none) (h : TabsN T H) : TabsN T (plusC H C) := h.ext fun b o e => by
  cases q : C b with
  | none => rw [plus_no q]; exact e
  | some ob => rw [n b ob q] at e; cases e
theorem no_of (n : ∀ b o, C b = some o → H b = none) {b : Addr} {u : HO} (e : H b = some u) : C b = none := by
  cases q : C b with
  | none => rfl
  | some ob => rw [n b ob q] at e; cases e
theorem ext_minus (n : ∀ b o, C b = some o → H b = none) (e : Ext W (plusC H C) H') : Ext W H (minusC H' C) := ⟨fun a o h t w => by
  have q := no_of n h
  rw [minus_no q]
  exact e.keep a o (by rw [plus_no q]; exact h) t w, fun a h => by
  cases q : C a with
  | some ob => exact n a ob q
  | none =>
    rw [minus_no q] at h
    have := e.gone a h
    rw [plus_no q] at this
    exact this⟩
theorem ext_plus (t : ∀ b o, C b = some o → H b = some (CelF o)) (e : Ext W (minusC H C) H') : Ext W H (plusC H' C) := ⟨fun a o h n w => by
  cases q : C a with
  | some ob =>
    rw [t a ob q] at h
    cases h
    exact plus_at q
  | none =>
    rw [plus_no q]
    exact e.keep a o (by rw [minus_no q]; exact h) n w, fun a h => by
  cases q : C a with
  | some ob => rw [plus_at q] at h; cases h
  | none =>
    rw [plus_no q] at h
    have := e.gone a h
    rw [minus_no q] at this
    exact this⟩
end
/-- the callee's context, to whom the cells of C are lent; R may not be told of -/
def G.lend (g : G) (R : Addr → Prop) (hW : ∀ a, g.W a → R a) (H : Hp) (C : Addr → Option Obj) : G where
  toB := g.toB
  M := R
  hW := hW
  z := fun H' R' => (∀ Hq Rq, (∀ a o, ¬ R' a → H' a = some o → NT o → C a = none → Hq a = some o ∧ ¬ Rq a) → g.z Hq Rq) ∧ (∀ a o, ¬ R a → H a = some o → NT o → H' a = some o ∧ ¬ R' a) ∧ (∀ b o, C b = some o → H' b = some (CelF o) ∧ ¬ R' b)
  hz := fun H1 H2 R1 R2 m ⟨z1, z2, z3⟩ => ⟨fun Hq Rq rel => z1 Hq Rq fun a o n q t c => by
      obtain ⟨q1, q2⟩ := m a o n q t
      exact rel a o q2 q1 t c,
    fun a o n q t => by
      obtain ⟨q1, q2⟩ := z2 a o n q t
      exact m a o q2 q1 t,
    fun b o c => by
      obtain ⟨q1, q2⟩ := z3 b o c
      exact m b _ q2 q1 NT.frz⟩
/-- the context of a body that runs without the cells -/
def G.unlend (g : G) (R : Addr → Prop) (hW : ∀ a, g.W a → R a) (C : Addr → Option Obj) : G where
  toB := g.toB
  M := R
  hW := hW
  z := fun H' R' => ∀ Hq Rq, (∀ a o, ¬ R' a → H' a = some o → NT o → Hq a = some o ∧ ¬ Rq a) → (∀ b o, C b = some o → Hq b = some (CelF o) ∧ ¬ Rq b) → g.z Hq Rq
  hz := by
    intro H1 H2 R1 R2 m z Hq Rq rel cel
    exact z Hq Rq (fun a o n q t => rel a o (m a o n q t).2 (m a o n q t).1 t) cel
section
variable {P : Gl0} {g : G} {R R' : Addr → Prop} {hW : ∀ a, g.W a → R a} {H H' : Hp} {C : Addr → Option Obj}
/-- lent: into the callee -/
theorem sg_lend (n : ∀ b o, C b = some o → H b = none) (s : SG P g R H) : SG P (g.lend R hW H C) R (plusC H C) where
  tabs := tabs_plus n s.tabs
  inv := g.hinv _ _ (fun a o _ h => by rw [plus_no (no_of n h)]; exact h) s.inv
  trk := fun a r => by
    obtain ⟨o, q, t⟩ := s.trk a r
    exact ⟨o, by rw [plus_no (no_of n q)]; exact q, t⟩
  pin := ⟨fun Hq Rq rel => g.hz _ _ _ _ (fun a o r q t => rel a o r (by rw [plus_no (no_of n q)]; exact q) t (no_of n q)) s.pin,
    fun a o r q t => ⟨by rw [plus_no (no_of n q)]; exact q, r⟩,
    fun b o c => ⟨plus_at c, fun r => by
      obtain ⟨u, q, _⟩ := s.trk b r
      rw [n b o c] at q; cases q⟩⟩
theorem mv_lend (n : ∀ b o, C b = some o → H b = none) : Mv g (g.lend R hW H C) R R H (plusC H C) := ⟨fun a o r q _ => ⟨by rw [plus_no (no_of n q)]; exact q, r⟩, fun _ _ b => b⟩
/-- lent: back from the callee -/
theorem sg_lent (t : ∀ b o, C b = some o → H' b = some (CelF o)) (s : SG P (g.lend R hW H C) R H') : SG P g R (minusC H' C) where
  tabs := tabs_minus t s.tabs
  inv := g.hinv _ _ (fun a o w h => by
    cases q : C a with
    | none => rw [minus_no q]; exact h
    | some ob => exact absurd (hW a w) (s.pin.2.2 a ob q).2) s.inv
  trk := fun a r => by
    obtain ⟨o, q, n⟩ := s.trk a r
    cases qc : C a with
    | none => exact ⟨o, by rw [minus_no qc]; exact q, n⟩
    | some ob => exact absurd r (s.pin.2.2 a ob qc).2
  pin := s.pin.1 _ _ fun a o r q n c => ⟨by rw [minus_no c]; exact q, r⟩
theorem mv_lent (t : ∀ b o, C b = some o → H' b = some (CelF o)) : Mv (g.lend R hW H C) g R R H' (minusC H' C) := ⟨fun a o r q n => ⟨by rw [minus_no (noF t q n.nf)]; exact q, r⟩, fun _ _ b => b⟩
/-- unlent: into the body -/
theorem sg_unlend {hW' : ∀ a, g.W a → R' a} (t : ∀ b o, C b = some o → H' b = some (CelF o) ∧ ¬ R' b) (s : SG P g R' H') : SG P (g.unlend R' hW' C) R' (minusC H' C) where
  tabs := tabs_minus (fun b o c => (t b o c).1) s.tabs
  inv := g.hinv _ _ (fun a o w h => by
    cases q : C a with
    | none => rw [minus_no q]; exact h
    | some ob => exact absurd (hW' a w) (t a ob q).2) s.inv
  trk := fun a r => by
    obtain ⟨o, q, n⟩ := s.trk a r
    cases qc : C a with
    | none => exact ⟨o, by rw [minus_no qc]; exact q, n⟩
    | some ob => exact absurd r (t a ob qc).2
  pin := fun Hq Rq rel cel => g.hz _ _ _ _ (fun a o r q n => by
    cases qc : C a with
    | none => exact rel a o r (by rw [minus_no qc]; exact q) n
    | some ob =>
      rw [(t a ob qc).1] at q
      cases q
      exact cel a ob qc) s.pin
theorem mv_unlend {hW' : ∀ a, g.W a → R' a} (t : ∀ b o, C b = some o → H' b = some (CelF o) ∧ ¬ R' b) : Mv g (g.unlend R' hW' C) R' R' H' (minusC H' C) := ⟨fun a o r q n => ⟨by rw [minus_no (noF (fun b o c => (t b o c).1) q n.nf)]; exact q, r⟩, fun _ _ b => b⟩
/-- unlent: back -/
theorem sg_unlent {hW' : ∀ a, g.W a → R' a} (nR : ∀ b o, C b = some o → ¬ R' b) (n : ∀ b o, C b = some o → H' b = none) (s : SG P (g.unlend R' hW' C) R' H') : SG P g R' (plusC H' C) where
  tabs := tabs_plus n s.tabs
  inv := g.hinv _ _ (fun a o _ h => by rw [plus_no (no_of n h)]; exact h) s.inv
  trk := fun a r => by
    obtain ⟨o, q, t⟩ := s.trk a r
    exact ⟨o, by rw [plus_no (no_of n q)]; exact q, t⟩
  pin := s.pin _ _ (fun a o r q t => ⟨by rw [plus_no (no_of n q)]; exact q, r⟩) fun b o c => ⟨plus_at c, nR b o c⟩
theorem mv_unlent {hW' : ∀ a, g.W a → R' a} (n : ∀ b o, C b = some o → H' b = none) : Mv (g.unlend R' hW' C) g R' R' H' (plusC H' C) := ⟨fun a o r q _ => ⟨by rw [plus_no (no_of n q)]; exact q, r⟩, fun _ _ b => b⟩
end

/-! ### a frame's cells -/
open Classical in
noncomputable def cellC (cs : List (Str × Addr)) (h : Heap) : Addr → Option Obj := fun b => if ∃ y, cs.lookup y = some b then h.get? b else none
theorem cellC_some {cs : List (Str × Addr)} {h : Heap} {b : Addr} {o : Obj} (e : cellC cs h b = some o) : (∃ y, cs.lookup y = some b) ∧ h.get? b = some o := by
  unfold cellC at e
  split at e
  · rename_i q
    exact ⟨q, e⟩
  · cases e
theorem cellC_of {cs : List (Str × Addr)} {h : Heap} {b : Addr} {y : Str} (e : cs.lookup y = some b) : cellC cs h b = h.get? b := by
  unfold cellC
  rw [if_pos ⟨y, e⟩]
/-- what is known of the running frame's closures -/
structure FrB (X : Cx) (P : Gl0) (gp : B → Prop) (k : Nat) (tb : Nat → Option CloT) : Prop where
  fn : ∀ y c, X.env.cells.lookup y = some c → X.fn y = true
  clo : ∀ i c, tb i = some c → ∃ S N ps fr, P.S i = some S ∧ CloB X.prog X.w X.K X.mg X.base P gp k S N ps fr c ∧ (∀ y ∈ S.scope.names, y.2 = .free → X.env.scope.names.lookup y.1 = some .cell ∨ X.env.scope.names.lookup y.1 = some .free) ∧ (∀ y ∈ fr, (y, NameKind.free) ∈ S.scope.names) ∧ c.js.map (fun j => X.N[j]?) = fr.map some
section
variable {X : Cx} {P : Gl0} {g : G} {gp : B → Prop} {k : Nat} {tb : Nat → Option CloT} {pins : List (Addr × Obj)} {σ : L2.St} {H H0 : Hp} {s : Shared} {E : Ex} {ss : SS}
theorem FrB.cellU (F : FrB X P gp k tb) (I : Inv X pins σ H s) : CellU H s.heap (frs X.stack) (cellC X.env.cells s.heap) where
  free := fun b o e => by
    obtain ⟨⟨y, h⟩, _⟩ := cellC_some e
    exact I.freeC y b h
  at_ := fun b o e => (cellC_some e).2
  nf := fun b o e hb => by
    obtain ⟨⟨y, h⟩, _⟩ := cellC_some e
    have hfs : b ∉ X.fs := fun hb => by
      obtain ⟨_, o', ho, _⟩ := I.ok.funs.mem hb
      exact absurd (Nat.lt_of_lt_of_le (Heap.lt_size ho) (I.ok.cab y b (F.fn y b h) h)) (Nat.lt_irrefl _)
    rcases I.ok.stk with z | ⟨z, z2⟩
    · rw [z] at hb
      exact hfs hb
    · rw [z] at hb
      obtain ⟨e1, he, q⟩ := List.mem_filterMap.mp hb
      rcases List.mem_cons.mp he with z3 | he
      · rw [z3, z2] at q
        exact I.cne y b h (Option.some.inj q).symm
      · exact hfs (List.mem_filterMap.mpr ⟨e1, he, q⟩)
theorem FrB.nb (F : FrB X P gp k tb) (I : Inv X pins σ H s) : ∀ b o, cellC X.env.cells s.heap b = some o → X.base.get? b = none := fun b o e => by
  obtain ⟨⟨y, h⟩, _⟩ := cellC_some e
  have h1 := I.ok.cab y b (F.fn y b h) h
  cases q : X.base.get? b with
  | none => rfl
  | some o' => exact absurd (Nat.lt_of_lt_of_le (Heap.lt_size q) (Nat.le_trans I.ok.bsz h1)) (Nat.lt_irrefl _)
/-- the running frame's closures, in the callee to whom the cells are lent -/
theorem FrB.ap (F : FrB X P gp k tb) (I : Inv X pins σ H s) (S : Stt P g E H0 ss σ H) (hgp : gp g.toB) : ApOk X.prog X.w X.K X.mg X.base P (g.lend (Rg g E σ ss) (fun a w => Rg.W w) H (cellC X.env.cells s.heap)) (k + 1) (apF tb X.env.cells ss) := by
  refine ⟨fun A outer s' H' R' hW' v u d us vs ds Q Qx QV XE hr hgd e0 sg n rv dl r h hq hx => ?_⟩
  unfold apF at h
  split at h
  · rename_i i cs'
    obtain ⟨rfl, h⟩ := h
    split at h
    · rename_i c hc
      obtain ⟨Sw, N, ps, fr, hS, CB, hfree, hfr, hjs⟩ := F.clo i c hc
      cases n with
      | @clo f c' _ S' _ eS nf nc hf hcO =>
        rw [hS] at eS
        cases eS
        have rv : u = .ref f := rv
        obtain ⟨z1, z2, z3⟩ := sg.pin
        refine ⟨f, rv, ?_, ?_⟩
        · obtain ⟨⟨od, sl, doc, pm, ctv, ho⟩, _, _⟩ := e0.hok f _ hf
          exact ⟨_, _, _, _, ho⟩
        have ct : CellT H' (frs outer) (cellC X.env.cells s.heap) := ⟨fun b o q => (z3 b o q).1, fun b o q hb => by
          have := e0.frf b hb
          rw [(z3 b o q).1] at this
          cases this⟩
        have cu := F.cellU I
        have hfr' : ∀ y ∈ Sw.scope.names, y.2 = .free → ∃ c, X.env.cells.lookup y.1 = some c := fun y hy e => (hfree y hy e).elim (fun z => I.ok.has _ (.inl z)) fun z => I.ok.has _ (.inr z)
        have C0 := cells_of I (Caps.made (fr := fr) (js := c.js) I.ok hfree hfr hjs)
        have inC : ∀ {y b}, (cloFrom X.env.cells Sw.scope.names []).lookup y = some b → ∃ o, cellC X.env.cells s.heap b = some o := fun {y b} q => by
          have q2 := clo_cm hfr' q
          obtain ⟨v, o, ho, _⟩ := I.cell y b q2
          exact ⟨o, by rw [cellC_of q2]; exact ho⟩
        have same : ∀ {b o}, cellC X.env.cells s.heap b = some o → s'.heap.get? b = some o := fun {b o} q => cel_at e0.hok (z3 b o q).1
        have isC : ∀ {y b v}, (cloFrom X.env.cells Sw.scope.names []).lookup y = some b → s.heap.IsCell b v → s'.heap.IsCell b v := fun {y b v} q ⟨o, ho, hd⟩ => by
          obtain ⟨o', q'⟩ := inC q
          have h1 := (cellC_some q').2
          rw [ho] at h1
          cases h1
          exact ⟨o, same q', hd⟩
        have C1 : CellsAt (cloFrom X.env.cells Sw.scope.names []) fr (c.js.map (slotAt σ)) s'.heap (minusC H' (cellC X.env.cells s.heap)) := ⟨C0.len, fun y b q => by
            obtain ⟨o', q'⟩ := inC q
            obtain ⟨_, v, z⟩ := C0.all y b q
            exact ⟨minus_at q', v, isC q z⟩, C0.inj, fun i y e => by
            obtain ⟨b, q, hv⟩ := C0.has i y e
            exact ⟨b, q, fun v ev => by
              obtain ⟨u, r, z⟩ := hv v ev
              exact ⟨u, r, isC q z⟩⟩⟩
        have e1 := env0_minus ct e0
        have nof : ∀ {b : Addr} {φ : Heap → Prop}, H' b = some (.ext φ) → minusC H' (cellC X.env.cells s.heap) b = some (.ext φ) := fun {b φ} q => by
          rw [minus_no (noF ct.at_ q fun _ _ z => by cases z)]
          exact q
        have mvc : Mv g ((g.lend (Rg g E σ ss) (fun a w => Rg.W w) H (cellC X.env.cells s.heap)).unlend R' hW' (cellC X.env.cells s.heap)) (Rg g E σ ss) R' H (minusC H' (cellC X.env.cells s.heap)) := ⟨fun a o r q t => by
          obtain ⟨q1, q2⟩ := z2 a o r q t.nt
          exact ⟨by rw [minus_no (cu.no q)]; exact q1, q2⟩, fun _ _ b => b⟩
        obtain ⟨hds, ht⟩ := h
        refine cr_unlend_run ct e0.hok ?_
        refine clo_run (ws := c.js.map (slotAt σ)) (caps := c.js.map (fun j => capS ss[j]?)) (g := (g.lend (Rg g E σ ss) (fun a w => Rg.W w) H (cellC X.env.cells s.heap)).unlend R' hW' (cellC X.env.cells s.heap)) CB hr hgd e1 hgp (nof hf) (nof hcO) C1 r (sg_unlend z3 sg) (DenL.mv (mv_unlend z3) dl) (by rw [List.length_map, List.length_map]) (fun i d q => ?_) (fun i d q => ?_) hds ht (fun v H2 d e2 sg2 n2 q2 gone => ?_) (fun cls dd H2 er e2 sg2 n2 q2 gone => ?_)
        · rw [List.getElem?_map] at q
          obtain ⟨j, _, q⟩ := Option.map_eq_some_iff.mp q
          exact capS_own q
        · rw [List.getElem?_map] at q
          obtain ⟨j, h1, q⟩ := Option.map_eq_some_iff.mp q
          obtain ⟨v, h2, h3⟩ := S.val j d (capS_v q)
          exact ⟨v, by rw [List.getElem?_map, h1]; exact congrArg some (slotAt_of h2), Den.mv mvc h3⟩
        · exact hq v _ d (ext_plus ct.at_ e2) (sg_unlent (fun b o c => (z3 b o c).2) gone sg2) (Den.mv (mv_unlent gone) n2) q2
        · exact hx cls dd _ er (ext_plus ct.at_ e2) (sg_unlent (fun b o c => (z3 b o c).2) gone sg2) (ErrD.mv (mv_unlent gone) n2) q2
    · exact h.elim
  · exact h.elim
where
  cr_unlend_run {H : Hp} {C : Addr → Option Obj} {Pr : Program} {w : World} {A : Around} {outer : List Env} {s : Shared} {code : Code} {QV : VK} {XE : XK} (ct : CellT H (frs outer) C) (hok : HOk Pr w H s.heap)
      (h : codeAny (model Pr w) A code (CR (L2.CX Pr w) outer Pr w (minusC H C) s (fun v H' => (∀ b o, C b = some o → H' b = none) → QV v (plusC H' C)) (fun cls d H' => (∀ b o, C b = some o → H' b = none) → XE cls d (plusC H' C))) s) : codeAny (model Pr w) A code (CR (L2.CX Pr w) outer Pr w H s QV XE) s :=
    codeAny_mono h fun r s' q => cr_unlend ct hok (fun v H' g q => q g) (fun cls d H' g q => q g) q
end
end DL

set_option maxRecDepth 100000
set_option maxHeartbeats 4000000
namespace DL
open PySem PySem.Spec PyProof.Rows L2 LamX NdefX DLX

/-! ### defs that are handed functions; the calls of these -/
abbrev CtrH := Ap → Ctr
def spH (Pr : Program) (w : World) (K : PySem.W.Frag) (mg : Str → Option Value) (base : Heap) (P : Gl0) (gp : B → Prop) (n j : Nat) (c : CtrH) : Sp := fun vs H Q E => ∃ (g : G) (ds : List D) (Qd : D → Prop) (Qx : Err → Prop) (ap : Ap), gp g.toB ∧ vs.length = n ∧ SG P g g.M H ∧ DenL P g g.M H vs ds ∧ ApOk Pr w K mg base P g j ap ∧ c ap ds Qd Qx ∧
  (∀ v H' d, Ext g.W H H' → SG P g g.M H' → Den P g g.M H' v d → Qd d → Q v H') ∧ (∀ cls dd H' e, Ext g.W H H' → SG P g g.M H' → ErrD P g g.M H' cls dd e → Qx e → E cls dd H')
/-- .. by its body -/
theorem fnDH {Pr : Program} {w : World} {K : PySem.W.Frag} {mg : Str → Option Value} {base : Heap} {P : Gl0} {x qual : Str} {st : Stmt} {f : Addr} {fd : FuncData} {N ps : List Str} {k j : Nat} {gp : B → Prop} {c : CtrH} {t : Ap → TSt}
    (F : L2.Fun K x qual st f fd) (S : FnScope N ps (defScope st))
    (hbody : ∀ (g : G), gp g.toB → ∀ (ap : Ap), ApOk Pr w K mg base P g j ap → ∀ (cdv : Value) (A : Around) (outer : List Env) (s : Shared) (H : Hp) (E : XK), Room k (A.deeper (envOfC qual (defScope st) s.heap.objs.size f cdv)) → (A.deeper (envOfC qual (defScope st) s.heap.objs.size f cdv)).guards = some [] → DSs (cxOf (L2.CX Pr w) Pr w K mg base N qual (defScope st) f cdv A outer s H E) P g (defBody st) (t ap))
    (read : ∀ ap ds Qd Qx, ds.length = ps.length → c ap ds Qd Qx → t ap (endsD Qd Qx) (startS N ds)) : FnG Pr w K mg base (L2.CX Pr w) (k + 1) f fd ps (spH Pr w K mg base P gp ps.length j c) := by
  refine fnG_of F S (fun vs H Q E ⟨g, ds, Qd, Qx, _, _, h, _⟩ => h) fun cdv A outer s H vs Q E hr hgd hsp => ?_
  obtain ⟨g, ds, Qd, Qx, ap, hgp, hl, sg, dl, hap, hc, hq, hx⟩ := hsp
  have hds : ds.length = ps.length := by rw [← dl.length]; exact hl
  have sub : ∀ {E : Ex} {σ : L2.St} {ss : SS} a, g.M a → Rg g E σ ss a := fun a r => .inl r
  have key : ∀ {σ : L2.St} {ss : SS} {H' : Hp} {v : V} {d : D}, Stt P g E00 H ss σ H' → Den P g g.M H' v d → Qd d → Q v H' := fun S' n q => hq _ _ _ S'.grow (S'.sg.sub fun a r => sub a r) n q
  refine ⟨_, (hbody g hgp ap hap cdv A outer s H E hr hgd).pss, E00, H, startS N ds, endsD Qd Qx, stt_start sg dl, .inr ?_, read ap ds Qd Qx hds hc, ?_, ?_, ?_, ?_⟩
  · refine (takes_of rfl rfl rfl rfl).imp fun cls dd σ H' ⟨err, ss, S', h1, h2⟩ => hx cls dd H' err S'.grow (S'.sg.sub fun a r => sub a r) (ErrD.mv (Mv.sub fun a r => sub a r) h1) h2
  · rintro σ' H' ⟨ss', S', q⟩
    exact key S' .non q
  · rintro σ' H' ⟨ss', S', q⟩
    exact q.elim
  · rintro σ' H' ⟨ss', S', q⟩
    exact q.elim
  · rintro v H' ⟨d, σ, ss, S', n, q⟩
    exact key S' (Den.mv (Mv.sub fun a r => .inl r) n) q
section
variable {X : Cx} {P : Gl0} {g : G} {e : Expr} {es : List Expr} {ta : TD} {tl : TL} {pos p : Pos} {E : Ex} {H0 H : Hp} {ss : SS} {σ : L2.St} {n : Nat} {ps : List Str} {x : Str} {gp : B → Prop} {tb : Nat → Option CloT}
theorem TX.pass {Qx : Err → SS → Prop} (T : TX X P g E H0 Qx) (ss : SS) (σ : L2.St) : ∃ XE : XK, (∀ cls dd H' e, Stt P g E H0 ss σ H' → ErrD P g (Rg g E σ ss) H' cls dd e → Qx e ss → XE cls dd H') ∧ PassesAt (L2.CX X.prog X.w) X σ XE := by
  rcases T with T | T
  · refine ⟨fun _ _ _ => False, fun cls dd H' e _ _ z => (T _ _ z).elim, fun pins H s e s' I c => ?_⟩
    obtain ⟨_, _, _, _, _, _, _, _, _, _, _, _, z⟩ := c
    exact z.elim
  · exact ⟨_, fun cls dd H' e S n z => ⟨e, ss, S, n, z⟩, passAt T σ⟩
/-- the call of a slot's function: it was handed in -/
def isFn : D → Bool
  | .clo _ _ => true
  | .fn _ => true
  | _ => false
theorem Den.of_fn {R : Addr → Prop} {v : V} {d : D} (h : isFn d = true) (n : Den P g R H v d) : ∃ f, v = .ref f := by
  cases n <;> first | exact ⟨_, rfl⟩ | cases h
def vCallW (ap : Ap) (i : Nat) (tl : TL) : TD := fun ss Q Qx => match ss[i]? with
  | some (.v d) => isFn d = true ∧ tl ss (fun ds => ap d ds Q (fun e => Qx e ss)) Qx
  | _ => False
theorem callW_run {j : Nat} {ap : Ap} (AO : ApOk X.prog X.w X.K X.mg X.base P g j ap) (hr : Room j X.A) (hgd : X.A.guards = some []) {pins : List (Addr × Obj)} {s : Shared} {Q : D → Prop} {Qx : Err → SS → Prop} {f : Addr} {d : D} {us : List Value} {vs : List V} {ds : List D} (I : Inv X pins σ H s) (S : Stt P g E H0 ss σ H) (T : TX X P g E H0 Qx)
    (n : Den P g (Rg g E σ ss) H (.ref f) d) (dl : DenL P g (Rg g E σ ss) H vs ds) (r : Vals vs us) (h : ap d ds Q (fun e => Qx e ss)) : PySem.W.FnAt f s.heap ∧ wpAny (model X.prog X.w) X.A (call (.ref f) us) (EP X pins σ (EPD P g E H0 ss σ H Q)) X.xe s := by
  obtain ⟨XE, hXE, hx⟩ := T.pass ss σ
  obtain ⟨f', e, hf, c⟩ := AO.run X.A X.stack s H (Rg g E σ ss) (fun a w => Rg.W w) (.ref f) (.ref f) d us vs ds Q _ (EPD P g E H0 ss σ H Q) XE hr hgd I.env0 S.sg n rfl dl r h (fun v H' d e sg nd q => ⟨d, S.ext e sg, e, nd, q⟩) fun cls dd H' er e sg ne q => hXE cls dd H' er (S.ext e sg) ne q
  cases e
  refine ⟨hf, wpAny_call (codeAny_mono c fun r s' hq => ?_)⟩
  cases r with
  | error e => exact hx pins H s e s' I hq
  | ok fl =>
    cases fl with
    | ret u => exact I.after hq
    | next => exact False.elim hq
    | brk => exact False.elim hq
    | cont => exact False.elim hq
theorem EP.back {Q : D → Prop} {H1 : Hp} {pins : List (Addr × Obj)} {u : Value} {s' : Shared} (e : Ext g.W H H1) (h : EP X pins σ (EPD P g E H0 ss σ H1 Q) u s') : EP X pins σ (EPD P g E H0 ss σ H Q) u s' := by
  obtain ⟨v, H', I, r, q⟩ := h
  exact ⟨v, H', I, r, EPD.back e q⟩
theorem fnAt_in {K : PySem.W.Frag} {h : Heap} {f : Addr} (KX : K.In h) (e : PySem.W.fnIn K f = true) : PySem.W.FnAt f h := by
  unfold PySem.W.fnIn at e
  split at e
  · rename_i oc od fd sl q
    exact ⟨oc, od, fd, sl, KX _ _ q⟩
  · cases e
theorem d_callW {j : Nat} {ap : Ap} (AO : ApOk X.prog X.w X.K X.mg X.base P g j ap) (hr : Room j X.A) (hgd : X.A.guards = some []) (i : Nat) (ha : DA X P g (e :: es) tl) (hN : X.N[i]? = some x := by rfl) (hv : Vis X.env.scope x := by first | exact Or.inl rfl | exact Or.inr (Or.inl rfl) | exact Or.inr (Or.inr rfl)) (hd : (x == ("__debug__" : Str)) = false := by decide) (hcd : (x == ("__classdict__" : Str)) = false := by decide)
    (he : starEach (e :: es) X.env = (false, eval e X.env) :: starEach es X.env := by rfl) (hpl : (backTo pos (starEach es X.env)).any (·.1) = false := by rfl) (hP : ∀ y f, P.fnv y f → PySem.W.fnIn X.K f = true := by first | exact fun _ _ h => h.elim | assumption) : DE X P g (.Call (.Name x p) (e :: es) [] pos) (vCallW ap i tl) := by
  refine ⟨fun pins s σ H E H0 ss Q Qx I S T h => ?_⟩
  unfold vCallW at h
  split at h
  · rename_i d hs
    obtain ⟨hfn, h⟩ := h
    refine wpAny_Call_Name_kw (thn ((d_var (g := g) (P := P) (pos := p) i hN hv hd hcd).run pins s σ H E H0 ss (fun d' => d' = d) Qx I S T (by unfold vV; rw [hs])) fun u s1 ⟨v, H1, I1, r1, d1, S1, e1, n1, q1⟩ => ?_)
    subst q1
    obtain ⟨f, rfl⟩ := n1.of_fn hfn
    obtain rfl : u = Value.ref f := r1
    have FA : PySem.W.FnAt f s1.heap := by
      cases n1 with
      | clo _ _ _ hf _ =>
        obtain ⟨⟨od, sl, doc, pm, ctv, ho⟩, _, _⟩ := I1.hok f _ hf
        exact ⟨_, _, _, _, ho⟩
      | fn hf => exact fnAt_in I1.kIn (hP _ _ hf)
      | _ => cases hfn
    refine PySem.W.callWith_F (first := []) FA (thn (ha.run pos pins s1 σ H1 E H0 ss _ Qx I1 S1 T h) fun us s2 ⟨vs, H2, I2, r, ds, S2, e2, n2, q2⟩ => ?_) he hpl
    obtain ⟨h1, h2⟩ := callW_run AO hr hgd I2 S2 T (den_W e2 n1) n2 r q2
    exact ⟨h1, thn h2 fun u s' q => EP.back (e1.trans e2) q⟩
  · exact h.elim
theorem d_callW0 {j : Nat} {ap : Ap} (AO : ApOk X.prog X.w X.K X.mg X.base P g j ap) (hr : Room j X.A) (hgd : X.A.guards = some []) (i : Nat) (hN : X.N[i]? = some x := by rfl) (hv : Vis X.env.scope x := by first | exact Or.inl rfl | exact Or.inr (Or.inl rfl) | exact Or.inr (Or.inr rfl)) (hd : (x == ("__debug__" : Str)) = false := by decide) (hcd : (x == ("__classdict__" : Str)) = false := by decide) : DE X P g (.Call (.Name x p) [] [] pos) (vCallW ap i vNil) := by
  refine ⟨fun pins s σ H E H0 ss Q Qx I S T h => ?_⟩
  unfold vCallW at h
  split at h
  · rename_i d hs
    obtain ⟨hfn, h⟩ := h
    refine wpAny_Call_Name_kw (thn ((d_var (g := g) (P := P) (pos := p) i hN hv hd hcd).run pins s σ H E H0 ss (fun d' => d' = d) Qx I S T (by unfold vV; rw [hs])) fun u s1 ⟨v, H1, I1, r1, d1, S1, e1, n1, q1⟩ => ?_)
    subst q1
    obtain ⟨f, rfl⟩ := n1.of_fn hfn
    obtain rfl : u = Value.ref f := r1
    obtain ⟨h1, h2⟩ := callW_run (us := []) AO hr hgd I1 S1 T n1 .nil .nil h
    exact PySem.W.callWith_F0 (first := []) h1 (thn h2 fun u s' q => EP.back e1 q)
  · exact h.elim
/-- a def that is handed closures of the running frame -/
def vCallH (n : Nat) (c : CtrH) (af : SS → Ap) (tl : TL) : TD := fun ss Q Qx => tl ss (fun ds => ds.length = n ∧ c (af ss) ds Q (fun e => Qx e ss)) Qx
theorem d_callH {k j j' : Nat} {cs : List (Str × Addr)} (hcs : X.env.cells = cs) {c : CtrH} (F : FD X.prog X.w X.K X.mg X.base x k ps (spH X.prog X.w X.K X.mg X.base P gp n j c)) (Fr : FrB X P gp j' tb) (hj : j' + 1 ≤ j) (hr : Room k X.A) (hgd : X.A.guards = some []) (hg : Gl X x) (hgp : gp g.toB)
    (ha : DA X P g (e :: es) tl) (hdb : (x == ("__debug__" : Str)) = false := by decide) (he : starEach (e :: es) X.env = (false, eval e X.env) :: starEach es X.env := by rfl) (hpl : (backTo pos (starEach es X.env)).any (·.1) = false := by rfl) :
    DE X P g (.Call (.Name x p) (e :: es) [] pos) (vCallH n c (apF tb cs) tl) := by
  subst hcs
  obtain ⟨f, fd, hm, hk, hb, F⟩ := F.ex
  refine ⟨fun pins s σ H E H0 ss Q Qx I S T h => ?_⟩
  refine wpAny_Call_Name_kw (ld_glob I hg hm ?_ hdb)
  obtain ⟨XE, hXE, hx⟩ := T.pass ss σ
  refine PySem.W.callWith_K (h₀ := X.base) I.ok.mod.kin hk (thn (ha.run pos pins s σ H E H0 ss _ Qx I S T h) fun us s1 ⟨vs, H1, I1, r, ds, S1, e1, n1, q1, q2⟩ => ⟨I1.kIn, ?_⟩) he hpl
  have cu := Fr.cellU I1
  have hsp : spH X.prog X.w X.K X.mg X.base P gp n j c vs (plusC H1 (cellC X.env.cells s1.heap)) (fun v H' => (∀ b o, cellC X.env.cells s1.heap b = some o → H' b = some (CelF o)) → EPD P g E H0 ss σ H Q v (minusC H' (cellC X.env.cells s1.heap)))
      (fun cls dd H' => (∀ b o, cellC X.env.cells s1.heap b = some o → H' b = some (CelF o)) → XE cls dd (minusC H' (cellC X.env.cells s1.heap))) := by
    refine ⟨g.lend (Rg g E σ ss) (fun a w => Rg.W w) H1 (cellC X.env.cells s1.heap), ds, Q, _, apF tb X.env.cells ss, hgp, by rw [n1.length]; exact q1, sg_lend cu.free S1.sg, DenL.mv (mv_lend cu.free) n1, (Fr.ap I1 S1 hgp).mono hj, q2, fun v H' d e2 sg nd q t => ?_, fun cls dd H' er e2 sg ne q t => ?_⟩
    · have e3 := ext_minus cu.free e2
      exact ⟨d, S1.ext e3 (sg_lent t sg), e1.trans e3, Den.mv (mv_lent t) nd, q⟩
    · have e3 := ext_minus cu.free e2
      exact hXE cls dd _ er (S1.ext e3 (sg_lent t sg)) (ErrD.mv (mv_lent t) ne) q
  have hl : (us ++ []).length = ps.length := by
    rw [List.append_nil, ← r.length]
    exact F.len _ _ _ _ hsp
  have b := hb s1 us I1.kIn hl
  rw [List.append_nil] at b
  have run := F.run X.A X.stack s1 (plusC H1 (cellC X.env.cells s1.heap)) ⟨us, []⟩ us vs _ _ hr hgd (env0_plus cu (Fr.nb I1) I1.env0) b r hsp
  refine wpAny_call (codeAny_mono run fun r s' hq => ?_)
  have hq := cr_lend (Q := EPD P g E H0 ss σ H Q) (E := XE) cu (fun v H' t q => q t) (fun cls d H' t q => q t) hq
  cases r with
  | error e => exact hx pins H1 s1 e s' I1 hq
  | ok fl =>
    cases fl with
    | ret u => exact I1.after hq
    | next => exact False.elim hq
    | brk => exact False.elim hq
    | cont => exact False.elim hq
end
end DL

set_option maxRecDepth 100000
set_option maxHeartbeats 4000000
namespace DL
open PySem PySem.Spec PyProof.Rows L2 LamX NdefX DLX

/-! ### parts of a text -/
def kidsE : Expr → List Expr
  | .BoolOp _ vs _ => vs
  | .BinOp a _ b _ => [a, b]
  | .UnaryOp _ a _ => [a]
  | .Lambda _ b _ _ => [b]
  | .IfExp t a b _ => [t, a, b]
  | .Dict ks vs _ => ks.filterMap id ++ vs
  | .ListComp e gs _ _ => e :: gs.flatMap fun c => c.target :: c.iter :: c.ifs
  | .Compare a _ cs _ => a :: cs
  | .Call f as kw _ => f :: (as ++ kw.map (·.value))
  | .Attribute a _ _ => [a]
  | .Subscript a b _ => [a, b]
  | .Starred a _ => [a]
  | .List es _ => es
  | .Tuple es _ _ => es
  | _ => []
def kidsSE : Stmt → List Expr
  | .Return (some e) _ => [e]
  | .Assign ts e _ => e :: ts
  | .AugAssign a _ b _ => [b, a]
  | .For t i _ _ _ => [i, t]
  | .While t _ _ _ => [t]
  | .If t _ _ _ => [t]
  | .Raise (some e) _ _ => [e]
  | .Expr e _ => [e]
  | _ => []
def kidsS : Stmt → List Stmt
  | .FunctionDef _ _ b _ _ _ _ _ _ _ => b
  | .For _ _ b o _ => b ++ o
  | .While _ b o _ => b ++ o
  | .If _ b o _ => b ++ o
  | .Try b hs o f _ => b ++ ((hs.flatMap fun h => match h with | .ExceptHandler _ _ b _ => b) ++ (o ++ f))
  | _ => []
def subE : Expr → List Nat → Expr
  | e, [] => e
  | e, i :: p => subE ((kidsE e).getD i e) p
def subS : Stmt → List Nat → Stmt
  | s, [] => s
  | s, i :: p => subS ((kidsS s).getD i s) p
/-- the words of a lambda, of a nested def, q in front of their name -/
def lamW (q : Str) : Expr → CloS
  | .Lambda ps b sc _ => ⟨"<lambda>", q ++ "<lambda>", ps, .expr b, sc⟩
  | _ => ⟨"", "", ⟨[], [], none, [], [], none, []⟩, .stmts [], { kind := .function, names := [], isGenerator := false, isCoroutine := false }⟩
def defW (q : Str) : Stmt → CloS
  | .FunctionDef nm ps b _ _ _ sc _ _ _ => ⟨nm, q ++ nm, ps, .stmts b, sc⟩
  | _ => ⟨"", "", ⟨[], [], none, [], [], none, []⟩, .stmts [], { kind := .function, names := [], isGenerator := false, isCoroutine := false }⟩
def lamAt (q : Str) (s : Stmt) (p : List Nat) (i : Nat) (r : List Nat) : CloS := lamW q (subE ((kidsSE (subS s p)).getD i (.Constant .none 0 ⟨0, 0, 0, 0⟩)) r)
def defAt (q : Str) (s : Stmt) (p : List Nat) : CloS := defW q (subS s p)

/-! ### closures are made -/
/-- the running def's table of code objects -/
structure LamT (X : Cx) (P : Gl0) (nm : Nat → Nat → Str) : Prop where
  ex : ∃ c P0, TabB X.base X.mg c P0 ∧ X.env.code = .ref c ∧ (P0, nm) ∈ P.T ∧ ∀ p ∈ P.T, p.1 = P0 → p.2 = nm
section
variable {X : Cx} {P : Gl0} {g : G} {E : Ex} {H0 H H1 : Hp} {ss : SS} {σ : L2.St} {nm : Nat → Nat → Str} {pos p : Pos}
theorem Stt.made (S : Stt P g E H0 ss σ H) (eN : ExtN H H1) (gone : ∀ b, H1 b = none → H b = none) (T : TabsN P.T H1) : Stt P g E H0 ss σ H1 := by
  have e : Ext g.W H H1 := Ext.ofN eN gone
  refine S.ext e ⟨T, g.hinv _ _ (fun a o w h => ?_) S.sg.inv, fun a r => ?_, pinW (fun a w => Rg.W w) e S.sg.pin⟩
  · obtain ⟨u, q, n⟩ := S.sg.trk a (Rg.W w)
    rw [h] at q
    cases q
    exact eN a o h n.nt
  · obtain ⟨u, q, n⟩ := S.sg.trk a r
    exact ⟨u, eN a u q n.nt, n⟩
theorem Stt.made_den (S : Stt P g E H0 ss σ H) (eN : ExtN H H1) {k : Nat} {S0 : CloS} {cs : List (Str × Addr)} {f c' : Addr} (hS : P.S k = some S0) (hf : H f = none) (h1 : H1 f = some (CloO f S0 (cloFrom cs S0.scope.names []) c')) (h2 : H1 c' = some (CodeO c' S0.qual)) : Den P g (Rg g E σ ss) H1 (.ref f) (.clo k cs) := by
  refine .clo hS (S.fresh hf) (fun r => ?_) h1 h2
  obtain ⟨u, q, n⟩ := S.sg.trk c' r
  have := eN c' u q n.nt
  rw [h2] at this
  cases this
  exact n.ne _ rfl
theorem d_lam (k : Nat) {cs : List (Str × Addr)} (hcs : X.env.cells = cs) {params : Arguments} {body : Expr} {scope : Scope} (L : LamT X P nm) (hS : P.S k = some (lamW X.env.qual (.Lambda params body scope pos))) (hn : nm pos.line pos.col = X.env.qual ++ "<lambda>") (hfree : ∀ y ∈ scope.names, y.2 = .free → X.env.scope.names.lookup y.1 = some .cell ∨ X.env.scope.names.lookup y.1 = some .free)
    (hdef : defaultsOf params X.env = ([], []) := by rfl) : DE X P g (.Lambda params body scope pos) (vC (.clo k cs)) := by
  subst hcs
  obtain ⟨c, P0, TB, hcode, hm, hu⟩ := L.ex
  refine ⟨fun pins s σ H E H0 ss Q Qx I S T h => ?_⟩
  refine lam_makeN I TB hcode hm hn hu S.sg.tabs hdef (fun y hy e => (hfree y hy e).elim (fun z => I.ok.has _ (.inl z)) fun z => I.ok.has _ (.inr z)) fun f c' H1 s' I1 eN gone T1 hf h1 h2 => ?_
  exact ⟨.ref f, H1, I1, rfl, _, S.made eN gone T1, Ext.ofN eN gone, S.made_den eN hS hf h1 h2, h⟩
/-- def name(..): .., in a def's body -/
theorem s_ndef (k i : Nat) {cs : List (Str × Addr)} (hcs : X.env.cells = cs) {name : Str} {params : Arguments} {body : List Stmt} {scope : Scope} (L : LamT X P nm) (hN : X.N.Nodup) (hS : P.S k = some (defW X.env.qual (.FunctionDef name params body [] none [] scope none name pos))) (hn : nm pos.line pos.col = X.env.qual ++ name) (hfree : ∀ y ∈ scope.names, y.2 = .free → X.env.scope.names.lookup y.1 = some .cell ∨ X.env.scope.names.lookup y.1 = some .free)
    (hd0 : params.defaults = [] := by rfl) (hk0 : params.kw_defaults = [] := by rfl) (ha : annTrees params none X.env = [] := by rfl)
    (hi : X.N[i]? = some name := by rfl) (hx : Loc X.env.scope name := by first | exact Or.inl rfl | exact Or.inr rfl) (hf : X.fn name = true ∨ X.env.scope.names.lookup name = some .local := by first | exact .inl rfl | exact .inr rfl | assumption) :
    DS X P g (.FunctionDef name params body [] none [] scope none name pos) (vSet i (vC (.clo k cs))) := by
  subst hcs
  obtain ⟨c, P0, TB, hcode, hm, hu⟩ := L.ex
  refine DS.of (ps_ndefM (T := P.T) TB hcode hm hn hu hfree hd0 hk0 ha hN hi hx hf) fun σ H E H0 ss N S T h => ⟨S.sg.tabs, fun f c' H1 eN gone T1 hf h1 h2 => ?_⟩
  exact ⟨_, (S.made eN gone T1).set i (S.made_den eN hS hf h1 h2), h⟩
end
/-! ### defs whose bodies make closures -/
theorem fnG_ofC {CX : CXT} {Pr : Program} {w : World} {K : PySem.W.Frag} {mg : Str → Option Value} {base : Heap} {k : Nat} {f : Addr} {fd : FuncData} {x qual : Str} {st : Stmt} {N ps : List Str} {sp : Sp} (F : L2.Fun K x qual st f fd) (S : FnScope N ps (defScope st)) (len : ∀ vs H Q E, sp vs H Q E → vs.length = ps.length)
    (hbody : ∀ (cdv : Value) (A : Around) (outer : List Env) (s : Shared) (H : Hp) (vs : List V) (Q : VK) (E : XK), fd.code = cdv → Room k (A.deeper (envOfC qual (defScope st) s.heap.objs.size f cdv)) → (A.deeper (envOfC qual (defScope st) s.heap.objs.size f cdv)).guards = some [] → sp vs H Q E →
      ∃ t, PSs (cxOf CX Pr w K mg base N qual (defScope st) f cdv A outer s H E) (defBody st) t ∧ t { nx := fun _ H' => Q .non H', rt := Q } (L2.start N vs) H) : FnG Pr w K mg base CX (k + 1) f fd ps sp := by
  have F0 := F
  obtain ⟨oc, od, kV, doc, pm, an, cdv, ct, osl, rfl, lk, hcd⟩ := F.ex
  refine ⟨len, fun A outer s H args us vs Q E hr hgd e0 hb r hsp => ?_⟩
  have kp : ∀ b o, base.get? b = some o → s.heap.get? b = some o := fun b o e => (e0.bs b o e).1
  have KX : K.In s.heap := e0.mod.kin.keeps kp
  refine codeAny_call_function hr.depth (KX _ _ lk) rfl S.co S.gen rfl (PySem.W.codeRec_of KX hcd) (hb _ _ _ _ ?_)
  refine wpAny_newFunctionEnv_cells S.kind (fun y hy => ?_) fun env he s1 x => ?_
  · have hp := (List.of_mem_zip hy).1
    rcases S.par y.1 hp with q | q
    · exact .inl q
    · exact .inr ⟨q, PySem.W.cellsFrom_some _ _ _ (.inl q)⟩
  · subst he
    refine ⟨(e0.mod.nolimit.keeps kp).keeps x.toInCall.keep, codeAny_func ?_⟩
    obtain ⟨t, ht, hq⟩ := hbody cdv A outer s H vs Q E rfl (hr.deeper _) (deeper_guards hgd) hsp
    have hI := inv_start (CX := CX) (E := E) S hr.hd e0 (len _ _ _ _ hsp) r x
    refine wpAny_mono (ht.run [] s1 (L2.start N vs) H _ hI hq) (fun fl s' hs => ?_) fun e s' hs => hs
    cases fl with
    | ret u =>
      obtain ⟨v, σ', H', J, rv, q⟩ := hs
      exact ⟨v, H', J.os, J.bare, J.base, J.hok, rv, q⟩
    | next =>
      obtain ⟨σ', H', J, q⟩ := hs
      exact ⟨.non, H', J.os, J.bare, J.base, J.hok, rfl, q⟩
    | brk => obtain ⟨_, _, _, q⟩ := hs; exact q.elim
    | cont => obtain ⟨_, _, _, q⟩ := hs; exact q.elim
/-- such a def's contract -/
theorem fnDC {Pr : Program} {w : World} {K : PySem.W.Frag} {mg : Str → Option Value} {base : Heap} {P : Gl0} {x qual : Str} {st : Stmt} {f : Addr} {fd : FuncData} {N ps : List Str} {k : Nat} {gp : B → Prop} {c : Ctr} {t : List (Str × Addr) → TSt}
    (F : L2.Fun K x qual st f fd) (S : FnScope N ps (defScope st))
    (hbody : ∀ (g : G), gp g.toB → ∀ (cdv : Value), fd.code = cdv → ∀ (A : Around) (outer : List Env) (s : Shared) (H : Hp) (E : XK), Room k (A.deeper (envOfC qual (defScope st) s.heap.objs.size f cdv)) → (A.deeper (envOfC qual (defScope st) s.heap.objs.size f cdv)).guards = some [] → ∀ (cs : List (Str × Addr)), (envOfC qual (defScope st) s.heap.objs.size f cdv).cells = cs → DSs (cxOf (L2.CX Pr w) Pr w K mg base N qual (defScope st) f cdv A outer s H E) P g (defBody st) (t cs))
    (read : ∀ cs ds Qd Qx, ds.length = ps.length → c ds Qd Qx → t cs (endsD Qd Qx) (startS N ds)) : FnG Pr w K mg base (L2.CX Pr w) (k + 1) f fd ps (spD P gp ps.length c) := by
  refine fnG_ofC F S (fun vs H Q E ⟨g, ds, Qd, Qx, _, h, _⟩ => h) fun cdv A outer s H vs Q E hcd hr hgd hsp => ?_
  obtain ⟨g, ds, Qd, Qx, hgp, hl, sg, dl, hc, hq, hx⟩ := hsp
  have hds : ds.length = ps.length := by rw [← dl.length]; exact hl
  have sub : ∀ {E : Ex} {σ : L2.St} {ss : SS} a, g.M a → Rg g E σ ss a := fun a r => .inl r
  have key : ∀ {σ : L2.St} {ss : SS} {H' : Hp} {v : V} {d : D}, Stt P g E00 H ss σ H' → Den P g g.M H' v d → Qd d → Q v H' := fun S' n q => hq _ _ _ S'.grow (S'.sg.sub fun a r => sub a r) n q
  refine ⟨_, (hbody g hgp cdv hcd A outer s H E hr hgd _ rfl).pss, E00, H, startS N ds, endsD Qd Qx, stt_start sg dl, .inr ?_, read _ ds Qd Qx hds hc, ?_, ?_, ?_, ?_⟩
  · refine (takes_of rfl rfl rfl rfl).imp fun cls dd σ H' ⟨err, ss, S', h1, h2⟩ => hx cls dd H' err S'.grow (S'.sg.sub fun a r => sub a r) (ErrD.mv (Mv.sub fun a r => sub a r) h1) h2
  · rintro σ' H' ⟨ss', S', q⟩
    exact key S' .non q
  · rintro σ' H' ⟨ss', S', q⟩
    exact q.elim
  · rintro σ' H' ⟨ss', S', q⟩
    exact q.elim
  · rintro v H' ⟨d, σ, ss, S', n, q⟩
    exact key S' (Den.mv (Mv.sub fun a r => .inl r) n) q
end DL

set_option maxRecDepth 100000
set_option maxHeartbeats 4000000
namespace DL
open PySem PySem.Spec PyProof.Rows L2 LamX NdefX DLX

/-! ### instances of own classes: made by an __init__ that may raise -/
def putD (f : Str) (d : D) : List (Str × D) → List (Str × D)
  | [] => [(f, d)]
  | (g, x) :: r => if g = f then (g, d) :: r else (g, x) :: putD f d r
theorem DenF.put {P : Gl0} {g : G} {R : Addr → Prop} {H : Hp} {f : Str} {v : V} {d : D} (h : Den P g R H v d) : ∀ {vs : List (Str × V)} {fs : List (Str × D)}, DenF P g R H vs fs → DenF P g R H (putF f v vs) (putD f d fs)
  | _, _, .nil => .cons h .nil
  | (f', v') :: vs, (_, d') :: fs, .cons q t => by
    unfold putF putD
    by_cases e : f' = f
    · rw [if_pos e, if_pos e]
      exact .cons h t
    · rw [if_neg e, if_neg e]
      exact .cons q (DenF.put h t)
theorem DenF.length {P : Gl0} {g : G} {R : Addr → Prop} {H : Hp} : ∀ {vs : List (Str × V)} {fs : List (Str × D)}, DenF P g R H vs fs → vs.length = fs.length
  | _, _, .nil => rfl
  | _, _, .cons _ t => by simp [DenF.length t]
/-- self.f = e, self one's own -/
def vFld (P : Gl0) (i : Nat) (f : Str) (ta : TD) : TSt := fun N ss => ta ss (fun d => match ss[i]? with
  | some (.own (.insA a C fs)) => P.insC C ∧ P.attr C f ∧ fs.length < 1000 ∧ N.nx (ss.set i (.own (.insA a C (putD f d fs))))
  | _ => False) N.ex
section
variable {X : Cx} {P : Gl0} {g : G} {e : Expr} {es : List Expr} {ta : TD} {tl : TL} {pos p p1 p2 : Pos} {E : Ex} {H0 H : Hp} {ss : SS} {σ : L2.St}
theorem s_fld (i : Nat) {x f : Str} (T : Txt X.K P) (he : DE X P g e ta) (hs : swapsWith e (some (.Attribute (.Name x p1) f p2)) pos.line X.env = pure false := by rfl) (hN : X.N[i]? = some x := by rfl) (hv : Vis X.env.scope x := by first | exact Or.inl rfl | exact Or.inr (Or.inl rfl) | exact Or.inr (Or.inr rfl)) (hd : (x == ("__debug__" : Str)) = false := by decide) (hcd : (x == ("__classdict__" : Str)) = false := by decide) :
    DS X P g (.Assign [.Attribute (.Name x p1) f p2] e pos) (vFld P i f ta) := by
  refine DS.of (ps_fld (pe_var (i := i) hN hv hd hcd) he.pe hs) fun σ H E H0 ss N S T' h => upE.run S T' h fun v H1 d S1 e1 n1 q => ?_
  split at q
  · rename_i a C fs hi
    obtain ⟨h1, h2, h3, q⟩ := q
    obtain ⟨p0, hp, f0, nM, nE, c⟩ := S1.own i _ hi
    cases c with
    | @insA C dx vs fs hx hf =>
      refine ⟨_, hp, _, C, dx, vs, rfl, hx, (T.ins C h1).1, T.attr C f h2, by rw [hf.length]; exact h3, _, S1.chg hi hp NR.ins (fun H' k z => .insA z (DenF.put (Den.mv ⟨fun a u n q t => ⟨k a u n q t.nt, n⟩, fun _ _ b => b⟩ n1) (DenF.mv ⟨fun a u n q t => ⟨k a u n q t.nt, n⟩, fun _ _ b => b⟩ hf))), q⟩
  · exact q.elim
end
/-- the contract of an __init__, of the instance that it fills -/
def spI (P : Gl0) (gp : B → Prop) (n : Nat) (C : Addr) (c : Ctr) : Sp := fun vs H Q E => ∃ (g : G) (ds : List D) (Qd : D → Prop) (Qx : Err → Prop) (x dx : Addr) (us : List V) (Hb : Hp), vs = .ref x :: us ∧ us.length = n ∧ gp g.toB ∧ Hb x = none ∧ Hb dx = none ∧ dx ≠ x ∧ H = upd (upd Hb dx (.own x)) x (.ins C dx []) ∧ SG P g g.M Hb ∧ DenL P g g.M Hb us ds ∧ c ds Qd Qx ∧
  (∀ H' fs, Ext g.W Hb H' → SG P g g.M H' → Den P g g.M H' (.ref x) (.ins C fs) → Qd (.ins C fs) → Q .non H') ∧ (∀ cls dd H' e, Ext g.W Hb H' → SG P g g.M H' → ErrD P g g.M H' cls dd e → Qx e → E cls dd H')
def isInsA (x C : Addr) (Q : D → Prop) : Option Sl → Prop
  | some (.own (.insA a C' fs)) => a = x ∧ C' = C ∧ Q (.ins C fs)
  | _ => False
def endsI (x C : Addr) (Qd : D → Prop) (Qx : Err → Prop) : DEnds := { nx := fun ss => isInsA x C Qd ss[0]?, rt := fun _ => False, ex := fun e _ => Qx e }
def startI (N : List Str) (x C : Addr) (ds : List D) : SS := .own (.insA x C []) :: (ds.map Sl.v ++ List.replicate (N.length - 1 - ds.length) Sl.u)
theorem fnDI {Pr : Program} {w : World} {K : PySem.W.Frag} {mg : Str → Option Value} {base : Heap} {P : Gl0} {x qual : Str} {st : Stmt} {f : Addr} {fd : FuncData} {N ps : List Str} {k : Nat} {gp : B → Prop} {C : Addr} {c : Ctr} {t : TSt}
    (F : L2.Fun K x qual st f fd) (S : FnScope N ps (defScope st)) (hps : ps ≠ [])
    (hbody : ∀ (g : G), gp g.toB → ∀ (cdv : Value) (A : Around) (outer : List Env) (s : Shared) (H : Hp) (E : XK), Room k (A.deeper (envOfC qual (defScope st) s.heap.objs.size f cdv)) → (A.deeper (envOfC qual (defScope st) s.heap.objs.size f cdv)).guards = some [] → DSs (cxOf (L2.CX Pr w) Pr w K mg base N qual (defScope st) f cdv A outer s H E) P g (defBody st) t)
    (read : ∀ x ds Qd Qx, ds.length = ps.length - 1 → c ds Qd Qx → t (endsI x C Qd Qx) (startI N x C ds)) : FnG Pr w K mg base (L2.CX Pr w) (k + 1) f fd ps (spI P gp (ps.length - 1) C c) := by
  have hpl : 1 ≤ ps.length := List.length_pos_iff.mpr hps
  refine fnG_of F S (fun vs H Q E ⟨g, ds, Qd, Qx, x, dx, us, Hb, e, h, _⟩ => by rw [e, List.length_cons, h]; omega) fun cdv A outer s H vs Q E hr hgd hsp => ?_
  obtain ⟨g, ds, Qd, Qx, x, dx, us, Hb, rfl, hl, hgp, hx0, hd0, hne, rfl, sg, dl, hc, hq, hx⟩ := hsp
  have hds : ds.length = ps.length - 1 := by rw [← dl.length]; exact hl
  have hNl : ps.length ≤ N.length := by have := congrArg List.length S.pre; rw [List.length_take] at this; omega
  have hx1 : upd Hb dx (.own x) x = none := by rw [upd_ne (fun z => hne z.symm)]; exact hx0
  -- the state before the instance, and with it
  have S0 : Stt P g E00 Hb (.u :: (ds.map Sl.v ++ List.replicate (N.length - 1 - ds.length) Sl.u)) (L2.start N (.ref x :: us)) Hb := by
    have dll := dl.length
    refine stt_of ?_ sg (fun i d h => ?_) (fun i d h => ?_)
    · unfold L2.start
      simp only [List.length_cons, List.length_append, List.length_map, List.length_replicate]
      omega
    · cases i with
      | zero => cases h
      | succ i =>
        have hm := List.mem_of_getElem? (show (ds.map Sl.v ++ List.replicate (N.length - 1 - ds.length) Sl.u)[i]? = some (.own d) from h)
        rcases List.mem_append.mp hm with hm | hm
        · obtain ⟨_, _, z⟩ := List.mem_map.mp hm
          cases z
        · cases (List.mem_replicate.mp hm).2
    · cases i with
      | zero => cases h
      | succ i =>
        have h : (ds.map Sl.v ++ List.replicate (N.length - 1 - ds.length) Sl.u)[i]? = some (.v d) := h
        unfold L2.start
        by_cases h1 : i < ds.length
        · rw [List.getElem?_append_left (by rw [List.length_map]; exact h1), List.getElem?_map] at h
          obtain ⟨d', q1, q2⟩ := Option.map_eq_some_iff.mp h
          cases q2
          obtain ⟨v, q3, q4⟩ := dl.get q1
          refine ⟨v, ?_, q4⟩
          rw [List.getElem?_append_left (by rw [List.length_map, List.length_cons]; omega), List.getElem?_map, List.getElem?_cons_succ, q3]
          rfl
        · rw [List.getElem?_append_right (by rw [List.length_map]; omega)] at h
          cases (List.mem_replicate.mp (List.mem_of_getElem? h)).2
  have S1 : Stt P g E00 Hb (startI N x C ds) (L2.start N (.ref x :: us)) (upd (upd Hb dx (.own x)) x (.ins C dx [])) :=
    (S0.new (o := .own x) hd0).setOwn 0 hx1 NR.ins fun R' H' m z => .insA z .nil
  have sub : ∀ {E : Ex} {σ : L2.St} {ss : SS} a, g.M a → Rg g E σ ss a := fun a r => .inl r
  refine ⟨_, (hbody g hgp cdv A outer s _ E hr hgd).pss, E00, Hb, startI N x C ds, endsI x C Qd Qx, S1, .inr ?_, read x ds _ Qx hds hc, ?_, ?_, ?_, ?_⟩
  · refine (takes_of rfl rfl rfl rfl).imp fun cls dd σ H' ⟨err, ss, S', h1, h2⟩ => hx cls dd H' err S'.grow (S'.sg.sub fun a r => sub a r) (ErrD.mv (Mv.sub fun a r => sub a r) h1) h2
  · rintro σ' H' ⟨ss', S', q⟩
    have q : isInsA x C Qd ss'[0]? := q
    unfold isInsA at q
    split at q
    · rename_i a C' fs h0
      obtain ⟨rfl, rfl, q⟩ := q
      obtain ⟨p0, hp, f0, nM, nE, c⟩ := S'.own 0 _ h0
      cases c with
      | insA h l => exact hq _ _ S'.grow (S'.sg.sub fun a r => sub a r) (.ins nM h (DenF.mv (Mv.sub fun a r => sub a r) l)) q
    · exact q.elim
  · rintro σ' H' ⟨ss', S', q⟩
    exact q.elim
  · rintro σ' H' ⟨ss', S', q⟩
    exact q.elim
  · rintro v H' ⟨d, σ, ss, S', n, q⟩
    exact q.elim
end DL

set_option maxRecDepth 100000
set_option maxHeartbeats 4000000
namespace DL
open PySem PySem.Spec PyProof.Rows L2 LamX NdefX DLX

/-! ### calls by keywords -/
def pick {α : Type} (is : List Nat) (l : List α) : List α := is.filterMap fun i => l[i]?
theorem pick_vals {is : List Nat} {vs : List V} {us : List Value} (r : Vals vs us) : Vals (pick is vs) (pick is us) := by
  unfold pick
  induction is with
  | nil => exact .nil
  | cons i is ih =>
    rw [List.filterMap_cons, List.filterMap_cons]
    cases e : vs[i]? with
    | none => rw [r.none_of e]; exact ih
    | some v =>
      obtain ⟨u, h1, h2⟩ := r.get e
      rw [h1]
      exact .cons h2 ih
theorem pick_den {P : Gl0} {g : G} {R : Addr → Prop} {H : Hp} {is : List Nat} {vs : List V} {ds : List D} (r : DenL P g R H vs ds) : DenL P g R H (pick is vs) (pick is ds) := by
  unfold pick
  induction is with
  | nil => exact .nil
  | cons i is ih =>
    rw [List.filterMap_cons, List.filterMap_cons]
    cases e : vs[i]? with
    | none =>
      have : ds[i]? = none := List.getElem?_eq_none_iff.mpr (by rw [← r.length]; exact List.getElem?_eq_none_iff.mp e)
      rw [this]; exact ih
    | some v =>
      obtain ⟨d, h1, h2⟩ := r.get' e
      rw [h1]
      exact .cons h2 ih
theorem pick_len {α : Type} {l : List α} : ∀ {is : List Nat}, (∀ i ∈ is, i < l.length) → (pick is l).length = is.length
  | [], _ => rfl
  | i :: is, h => by
    have ih := pick_len (l := l) (is := is) fun j hj => h j (List.mem_cons_of_mem _ hj)
    unfold pick at ih ⊢
    rw [List.filterMap_cons, List.getElem?_eq_getElem (h i List.mem_cons_self), List.length_cons, List.length_cons, ih]
structure KWB (K : PySem.W.Frag) (fd : FuncData) (ps : List Str) (m : Nat) (ks : List Str) (is : List Nat) : Prop where
  to : ∀ (s : Shared) (us ws : List Value), K.In s.heap → us.length = m → ws.length = ks.length → BindsTo s fd ⟨us, ks.zip ws⟩ (ps.zip (us ++ pick is ws))
theorem kwb_of {K : PySem.W.Frag} {x qual : Str} {st : Stmt} {f : Addr} {fd : FuncData} {ps ks : List Str} {m : Nat} {is : List Nat} (F : L2.Fun K x qual st f fd) (h : ∀ (kV doc pm : Value) (an : Option Addr) (cdv ct : Value) (us ws : List Value), us.length = m → ws.length = ks.length → bindArgs (PySem.W.fnOf x qual (defArgs st) (defBody st) (defScope st) .none kV doc pm an cdv ct) ⟨us, ks.zip ws⟩ = pure (ps.zip (us ++ pick is ws))) : KWB K fd ps m ks is := by
  obtain ⟨oc, od, kV, doc, pm, an, cdv, ct, osl, rfl, lk, hcd⟩ := F.ex
  exact ⟨fun s us ws _ h1 h2 => .of_eq (h kV doc pm an cdv ct us ws h1 h2)⟩
/-- the keywords' values -/
structure DK (X : Cx) (P : Gl0) (g : G) (kws : List Keyword) (t : TL) : Prop where
  run : ∀ (pos : Pos) (pins : List (Addr × Obj)) (s : Shared) (σ : L2.St) (H : Hp) (E : Ex) (H0 : Hp) (ss : SS) (Q : List D → Prop) (Qx : Err → SS → Prop), Inv X pins σ H s → Stt P g E H0 ss σ H → TX X P g E H0 Qx → t ss Q Qx →
    wpAny (model X.prog X.w) X.A (evalAll ((backToKw pos (keywordEach kws X.env)).map (·.2))) (AP X pins σ (APD P g E H0 ss σ H Q)) X.xe s
section
variable {X : Cx} {P : Gl0} {g : G} {e : Expr} {es : List Expr} {ta : TD} {tl : TL} {pos p kpos : Pos} {E : Ex} {H0 H : Hp} {ss : SS} {σ : L2.St} {x : Str} {kws : List Keyword} {nm : Option Str}
theorem k_nil : DK X P g [] vNil := ⟨fun pos pins s σ H E H0 ss Q Qx I S T h => pk_nil.run pos pins s σ H _ I ⟨[], S, Ext.refl _ _, .nil, h⟩⟩
theorem k_cons (ha : DE X P g e ta) (hr : DK X P g kws tl) : DK X P g (⟨nm, e, kpos⟩ :: kws) (vCons ta tl) := by
  refine ⟨fun pos pins s σ H E H0 ss Q Qx I S T h => ?_⟩
  show wpAny _ _ (evalAll ((do let v ← eval e X.env; standAt pos; pure v) :: (backToKw pos (keywordEach kws X.env)).map (·.2))) _ _ s
  refine wpAny_evalAll_cons (wpAny_bind (thn (ha.run pins s σ H E H0 ss _ Qx I S T h) fun u s1 ⟨x, H1, I1, r1, d, S1, e1, n1, q1⟩ => wpAny_bind (wpAny_standAt (wpAny_pure ?_))))
  exact thn (hr.run pos pins s1 σ H1 E H0 ss _ Qx I1 S1 T q1) fun us s2 ⟨xs, H2, I2, r2, ds, S2, e2, n2, q2⟩ => ⟨x :: xs, H2, I2, .cons r1 r2, d :: ds, S2, e1.trans e2, .cons (den_W e2 n1) n2, q2⟩
/-- f(a = .., b = ..) -/
def vCallK (n : Nat) (is : List Nat) (c : Ctr) (tk : TL) : TD := fun ss Q Qx => tk ss (fun ds => ds.length = n ∧ c (pick is ds) Q (fun e => Qx e ss)) Qx
theorem d_callK {k n : Nat} {f : Addr} {fd : FuncData} {ps ks : List Str} {is : List Nat} {gp : B → Prop} {c : Ctr} (F : FnG X.prog X.w X.K X.mg X.base (L2.CX X.prog X.w) k f fd ps (spD P gp n c)) (hm : X.mg x = some (.ref f)) (hk : PySem.W.keepIn X.K (.ref f) = true) (hr : Room k X.A) (hgd : X.A.guards = some []) (hg : Gl X x) (hb : KWB X.K fd ps 0 ks is) (hgp : gp g.toB) (hkw : DK X P g kws tl) (hin : is.length = n := by rfl) (his : ∀ i ∈ is, i < ks.length := by decide)
    (hall : (backToKw pos (keywordEach kws X.env)).all (·.1.isSome) = true := by rfl) (hks : (backToKw pos (keywordEach kws X.env)).filterMap (·.1) = ks := by rfl) (hdb : (x == ("__debug__" : Str)) = false := by decide) (hpl : ((backTo pos (starEach [] X.env)).any (·.1) || (backToKw pos (keywordEach kws X.env)).any (·.1.isNone)) = false := by rfl) :
    DE X P g (.Call (.Name x p) [] kws pos) (vCallK ks.length is c tl) := by
  refine ⟨fun pins s σ H E H0 ss Q Qx I S T h => ?_⟩
  refine wpAny_Call_Name_kw (ld_glob I hg hm ?_ hdb)
  obtain ⟨XE, hXE, hx⟩ := T.pass ss σ
  refine PySem.W.callWith_KW0 (h₀ := X.base) I.ok.mod.kin hk hall ?_ hpl
  refine thn (hkw.run pos pins s σ H E H0 ss _ Qx I S T h) fun ws s1 ⟨zs, H1, I1, rz, ds, S1, e1, n1, q1, q2⟩ => ⟨I1.kIn, ?_⟩
  rw [hks]
  have hw : ws.length = ks.length := by rw [← rz.length, n1.length]; exact q1
  have hsp : spD P gp n c (pick is zs) H1 (EPD P g E H0 ss σ H Q) XE := spD_at hgp S1 (pick_den n1) (by rw [pick_len fun i hi => by rw [q1]; exact his i hi]; exact hin) q2 (fun v H' z => EPD.back e1 z) hXE
  have b := hb.to s1 [] ws I1.kIn rfl hw
  rw [List.nil_append] at b
  refine wpAny_call (codeAny_mono (F.run X.A X.stack s1 H1 ⟨[], ks.zip ws⟩ (pick is ws) (pick is zs) _ XE hr hgd I1.env0 b (pick_vals rz) hsp) fun r s' hq => ?_)
  cases r with
  | error e => exact hx pins H1 s1 e s' I1 hq
  | ok fl =>
    cases fl with
    | ret u => exact I1.after hq
    | next => exact False.elim hq
    | brk => exact False.elim hq
    | cont => exact False.elim hq
end
/-! ### instances are made -/
theorem make_guards {A : Around} {C : Addr} {us : List Value} {kw : List (Str × Value)} (h : A.guards = some []) : (A.under (.builtin "type.__call__" ⟨.ref C :: us, kw⟩)).guards = some [] := by
  first | exact h | simpa [Around.under, Code.weight, Code.isCreation, Code.isGuard, Code.isCaller, Code.frames, Code.isFrame, guardIds] using h
section
variable {X : Cx} {P : Gl0} {g : G} {e : Expr} {es : List Expr} {ta : TD} {tl : TL} {pos p kpos : Pos} {E : Ex} {H0 H : Hp} {ss : SS} {σ : L2.St} {x : Str} {kws : List Keyword} {gp : B → Prop} {c : Ctr} {C f : Addr} {fd : FuncData} {ps ks : List Str} {k n : Nat} {is : List Nat}
theorem run_makeG {pins : List (Addr × Obj)} {s : Shared} {Q : VK} {us zs : List Value} {kw : List (Str × Value)} {vs : List V} {sp : Sp} {XE : XK} (M : Mk X.K C f) (F : FnG X.prog X.w X.K X.mg X.base (L2.CX X.prog X.w) k f fd ps sp) (hr : Room (k + 1) X.A) (hgd : X.A.guards = some [])
    (hb : ∀ (s : Shared) (u : Value), X.K.In s.heap → BindsTo s fd ⟨u :: us, kw⟩ (ps.zip (u :: zs))) (hx : PassesAt (L2.CX X.prog X.w) X σ XE) (I : Inv X pins σ H s) (r : Vals vs zs)
    (h : ∀ x dx, H x = none → H dx = none → dx ≠ x → sp (.ref x :: vs) (upd (upd H dx (.own x)) x (.ins C dx [])) (fun v H2 => v = .non ∧ Q (.ref x) H2) XE) :
    wpAny (model X.prog X.w) X.A (call (.ref C) us kw) (EP X pins σ Q) X.xe s := by
  have hq := h (s.heap.objs.size + 1) s.heap.objs.size (I.hok.fresh (Nat.le_succ _)) (I.hok.fresh (Nat.le_refl _)) (Nat.ne_of_lt (Nat.lt_succ_self _))
  have I2 := Inv.made (C := C) I
  refine wpAny_call (make_map (f := f) I.kIn M.makes M.init (beq_iff_eq.mp M.fn) (codeAny_mono (F.run _ X.stack _ _ ⟨Value.ref (s.heap.objs.size + 1) :: us, kw⟩ (Value.ref (s.heap.objs.size + 1) :: zs) _ _ XE (hr.make C us kw) (make_guards hgd)
    (I2.env0.make C us kw) (hb _ _ I2.kIn) (Paired.cons (show RelV (V.ref (s.heap.objs.size + 1)) (Value.ref (s.heap.objs.size + 1)) from rfl) r) hq) fun r s' hq' => ?_))
  cases r with
  | error e => exact hx pins _ _ e s' I2 hq'
  | ok fl =>
    cases fl with
    | ret u =>
      obtain ⟨v, H', I3, rv, ev, q3⟩ := I2.after hq'
      subst ev
      exact ⟨rv, ⟨V.ref (s.heap.objs.size + 1), H', I3, rfl, q3⟩⟩
    | next => exact False.elim hq'
    | brk => exact False.elim hq'
    | cont => exact False.elim hq'
theorem spI_at {vs : List V} {ds : List D} {Q : D → Prop} {Qx : Err → SS → Prop} {XE : XK} (hgp : gp g.toB) (S : Stt P g E H0 ss σ H) (dl : DenL P g (Rg g E σ ss) H vs ds) (hl : ds.length = n) (hc : c ds Q (fun e => Qx e ss)) (hx : ∀ cls dd H' e, Stt P g E H0 ss σ H' → ErrD P g (Rg g E σ ss) H' cls dd e → Qx e ss → XE cls dd H') :
    ∀ x dx, H x = none → H dx = none → dx ≠ x → spI P gp n C c (.ref x :: vs) (upd (upd H dx (.own x)) x (.ins C dx [])) (fun v H2 => v = .non ∧ EPD P g E H0 ss σ H Q (.ref x) H2) XE := fun x dx hx0 hd0 hne => by
  refine ⟨g.at E σ ss, ds, Q, _, x, dx, vs, H, rfl, by rw [dl.length]; exact hl, hgp, hx0, hd0, hne, rfl, S.sg.at, DenL.mv (mv_at fun a r => r) dl, hc, fun H' fs e sg nd q => ⟨rfl, ?_⟩, fun cls dd H' er e sg ne q => ?_⟩
  · exact ⟨_, S.ext e sg.off, e, Den.mv (mv_ta fun a r => r) nd, q⟩
  · exact hx cls dd H' er (S.ext e sg.off) (ErrD.mv (mv_ta fun a r => r) ne) q
/-- a class, by its name; its __init__'s contract -/
structure FM (Pr : Program) (w : World) (K : PySem.W.Frag) (mg : Str → Option Value) (base : Heap) (x : Str) (C : Addr) (k : Nat) (ps : List Str) (sp : Sp) : Prop where
  ex : ∃ (f : Addr) (fd : FuncData), mg x = some (.ref C) ∧ Mk K C f ∧ Binds K fd ps [] ∧ FnG Pr w K mg base (L2.CX Pr w) k f fd ps sp
theorem d_make (F : FM X.prog X.w X.K X.mg X.base x C k ps (spI P gp n C c)) (hr : Room (k + 1) X.A) (hgd : X.A.guards = some []) (hg : Gl X x) (hgp : gp g.toB) (ha : DA X P g (e :: es) tl) (hdb : (x == ("__debug__" : Str)) = false := by decide)
    (he : starEach (e :: es) X.env = (false, eval e X.env) :: starEach es X.env := by rfl) (hpl : (backTo pos (starEach es X.env)).any (·.1) = false := by rfl) : DE X P g (.Call (.Name x p) (e :: es) [] pos) (vCall n c tl) := by
  obtain ⟨f, fd, hm, M, hb, F⟩ := F.ex
  refine ⟨fun pins s σ H E H0 ss Q Qx I S T h => ?_⟩
  refine wpAny_Call_Name_kw (ld_glob I hg hm ?_ hdb)
  obtain ⟨XE, hXE, hx⟩ := T.pass ss σ
  refine PySem.W.callWith_K (h₀ := X.base) I.ok.mod.kin M.kp (thn (ha.run pos pins s σ H E H0 ss _ Qx I S T h) fun us s1 ⟨vs, H1, I1, r, ds, S1, e1, n1, q1, q2⟩ => ⟨I1.kIn, ?_⟩) he hpl
  have hsp := spI_at (gp := gp) (C := C) hgp S1 n1 q1 q2 hXE
  have hl : (vs.length : Nat) + 1 = ps.length := by
    obtain ⟨x, dx, hx0, hd0, hne⟩ : ∃ x dx, H1 x = none ∧ H1 dx = none ∧ dx ≠ x := ⟨s1.heap.objs.size + 1, s1.heap.objs.size, I1.hok.fresh (Nat.le_succ _), I1.hok.fresh (Nat.le_refl _), Nat.ne_of_lt (Nat.lt_succ_self _)⟩
    exact F.len _ _ _ _ (hsp x dx hx0 hd0 hne)
  have := run_makeG (zs := us) (kw := []) M F hr hgd (fun s u hK => by
    have b := hb s (u :: us) hK (by rw [List.append_nil, List.length_cons, ← r.length]; exact hl)
    rw [List.append_nil] at b
    exact b) hx I1 r hsp
  exact thn this fun u s' q => EP.back e1 q
theorem d_makeK (F : FnG X.prog X.w X.K X.mg X.base (L2.CX X.prog X.w) k f fd ps (spI P gp n C c)) (hm : X.mg x = some (.ref C)) (M : Mk X.K C f) (hb : KWB X.K fd ps 1 ks is) (hr : Room (k + 1) X.A) (hgd : X.A.guards = some []) (hg : Gl X x) (hgp : gp g.toB) (hkw : DK X P g kws tl) (hin : is.length = n := by rfl) (his : ∀ i ∈ is, i < ks.length := by decide)
    (hall : (backToKw pos (keywordEach kws X.env)).all (·.1.isSome) = true := by rfl) (hks : (backToKw pos (keywordEach kws X.env)).filterMap (·.1) = ks := by rfl) (hdb : (x == ("__debug__" : Str)) = false := by decide) (hpl : ((backTo pos (starEach [] X.env)).any (·.1) || (backToKw pos (keywordEach kws X.env)).any (·.1.isNone)) = false := by rfl) :
    DE X P g (.Call (.Name x p) [] kws pos) (vCallK ks.length is c tl) := by
  refine ⟨fun pins s σ H E H0 ss Q Qx I S T h => ?_⟩
  refine wpAny_Call_Name_kw (ld_glob I hg hm ?_ hdb)
  obtain ⟨XE, hXE, hx⟩ := T.pass ss σ
  refine PySem.W.callWith_KW0 (h₀ := X.base) I.ok.mod.kin M.kp hall ?_ hpl
  refine thn (hkw.run pos pins s σ H E H0 ss _ Qx I S T h) fun ws s1 ⟨zs, H1, I1, rz, ds, S1, e1, n1, q1, q2⟩ => ⟨I1.kIn, ?_⟩
  rw [hks]
  have hw : ws.length = ks.length := by rw [← rz.length, n1.length]; exact q1
  have hsp := spI_at (gp := gp) (C := C) (n := n) hgp S1 (pick_den (is := is) n1) (by rw [pick_len fun i hi => by rw [q1]; exact his i hi]; exact hin) q2 hXE
  have := run_makeG (us := []) (zs := pick is ws) (kw := ks.zip ws) M F hr hgd (fun s u hK => hb.to s [u] ws hK rfl hw) hx I1 (pick_vals rz) hsp
  exact thn this fun u s' q => EP.back e1 q
end
end DL

set_option maxRecDepth 100000
set_option maxHeartbeats 4000000
namespace PySem.W
open PySem PySem.Calls PyProof.Rows Builtin
set_option autoImplicit false
section
variable {prog : Program} {w : World} {A : Around} {E : Value → Shared → Prop} {s : Shared} {K : Frag} {x C L f : Addr} {h₀ : Heap} {m : Str → Option Value} {ox : Obj} {od : Option Obj} {b tb : Value}
/-- x != b by an own __eq__, object's __ne__ -/
theorem objNe_K (X : K.In s.heap) (I : InstAt s.heap x ox C od) (hu : A.units < cLine) (heq : findIn K (.ref C) "__eq__" = some (some (.ref f))) (hf : isFn K (.ref f) = true) {Q : Fin → Shared → Prop}
    (hcall : wpAny (model prog w) A (call (.ref f) [.ref x, b]) (fun v s' => ∃ r, v = .bool r ∧ Q (.done (.ret (.bool (!r)))) s') E s) :
    wpAny (model prog w) A (Builtin.«object.__ne__» ⟨[.ref x, b], []⟩) Q E s := by
  unfold Builtin.«object.__ne__»
  obtain ⟨h, g, d, t, os⟩ := s
  repeat (first
    | with_reducible refine wpAny_cRoomFor hu ?_
    | (refine wpAny_bind (m := callSpecialIfBound? (.ref x) (Str.ofString "__eq__") [b])
        (ifBound_K X I heq hf (wpAny_mono hcall (fun r s' hr => by
          obtain ⟨b, rfl, hq⟩ := hr
          repeat (first | exact hq | exact wpAny_pure hq | exact wpAny_truthy_bool hq | (refine wpAny_bind (m := truthy (.bool _)) (wpAny_truthy_bool ?_)) | wp_step)) fun _ _ e => e)))
    | wp_step)
theorem cmpNe_K {Q : Value → Shared → Prop} (hu : A.units + 1 < cLine) (FR : Fr h₀ L s.heap m) (X₀ : K.In h₀) (I : InstAt s.heap x ox C od) (hb : Looks (model prog w) s.heap (typeOf b) tb) (hn : notFirst K C tb = true)
    (hne : findIn K (.ref C) "__ne__" = some (some (.builtin "object.__ne__"))) (heq : findIn K (.ref C) "__eq__" = some (some (.ref f))) (hf : isFn K (.ref f) = true) (hm : mroIn K C (.type "object") = some true)
    (h : wpAny (model prog w) A.in1 (call (.ref f) [.ref x, b]) (fun v s' => ∃ r, v = .bool r ∧ Q (.bool (!r)) s') E s) : wpAny (model prog w) A (richCompare .NotEq (.ref x) b) Q E s := by
  have X := X₀.keeps FR.keep
  have one : wpAny (model prog w) A (tryCompare (.ref x) "__ne__" b) (fun r s' => ∃ v, r = some v ∧ Q v s') E s := by
    unfold tryCompare
    refine wpAny_bind (NtL.csib (I.type.andThen (looks_findIn X hne)) (F.cmp_object.ne.bind (.ref x)) ?_)
    refine wpAny_call (codeAny_call_builtin F.cmp_object.ne.plain F.cmpEntry_ne (check_slot F.cmpKind_ne F.cmpSplit_ne (I.type.andThen (looks_mroIn X hm)) (F.cmpArgs_ne _ _) ?_))
    refine objNe_K X I (by show A.units + 1 < cLine; exact hu) heq hf (wpAny_mono h (fun v s' hv => ?_) fun _ _ e => e)
    obtain ⟨r, rfl, q⟩ := hv
    exact ⟨r, rfl, wpAny_pure ⟨_, rfl, q⟩⟩
  unfold richCompare
  simp only [oneThing_ref]
  refine wpAny_holding (wpAny_bind (wpAny_cRoomFor (Nat.lt_of_succ_lt hu) ?_))
  rw [cmpInfo_NotEq]
  dsimp only
  refine wpAny_bind (I.type.here (wpAny_bind (hb.here ?_)))
  split
  · rename_i q
    have e : subIn K tb (.ref C) = some false := by
      rcases Bool.or_eq_true_iff.mp hn with e | e
      · rw [beq_iff_eq.mp e] at q; simp at q
      · exact beq_iff_eq.mp e
    refine wpAny_bind ((looks_subIn X e).here ?_)
    simp only [Bool.false_eq_true, if_false]
    refine wpAny_bind (wpAny_mono one (fun r s' z => ?_) fun _ _ e => e)
    obtain ⟨v, rfl, hq⟩ := z
    exact wpAny_pure hq
  · refine wpAny_bind (wpAny_pure ?_)
    simp only [Bool.false_eq_true, if_false]
    refine wpAny_bind (wpAny_mono one (fun r s' z => ?_) fun _ _ e => e)
    obtain ⟨v, rfl, hq⟩ := z
    exact wpAny_pure hq
end
end PySem.W
namespace DL
open PySem PySem.Spec PyProof.Rows L2 LamX NdefX DLX
/-! ### == and != by an own __eq__ -/
structure EqC (Pr : Program) (w : World) (K : PySem.W.Frag) (mg : Str → Option Value) (base : Heap) (P : Gl0) (gp : B → Prop) (k : Nat) (C : Addr) (c : Ctr) : Prop where
  ex : ∃ (f : Addr) (fd : FuncData) (ps : List Str), ps.length = 2 ∧ PySem.W.findIn K (.ref C) "__eq__" = some (some (.ref f)) ∧ PySem.W.isFn K (.ref f) = true ∧ PySem.W.findIn K (.ref C) "__ne__" = some (some (.builtin "object.__ne__")) ∧ Binds K fd ps [] ∧ FnG Pr w K mg base (L2.CX Pr w) k f fd ps (spD P gp 2 c)
  ins : P.insC C
/-- the right one's type is no subclass of the left one's -/
def eqT (P : Gl0) (C : Addr) (y : D) : Prop := okI P y ∧ (match tyD P y with
  | some (.ref C') => C' = C
  | some (.type _) => True
  | _ => False)
def rEqO (P : Gl0) (eqs : Addr → Option Ctr) : RD := fun x y Q => match x with
  | .ins C fs => (match eqs C with
    | some c => eqT P C y ∧ c [.ins C fs, y] Q fun _ => False
    | none => False)
  | x => rEqS x y Q
def rNeO (P : Gl0) (eqs : Addr → Option Ctr) : RD := fun x y Q => match x with
  | .ins C fs => (match eqs C with
    | some c => eqT P C y ∧ c [.ins C fs, y] (isB fun r => Q (.bl (!r))) fun _ => False
    | none => False)
  | x => rNeS x y Q
theorem not_first {K : PySem.W.Frag} {P : Gl0} {C : Addr} {y : D} {t : Value} (h : eqT P C y) (ht : tyD P y = some t) : PySem.W.notFirst K C t = true := by
  obtain ⟨_, h⟩ := h
  rw [ht] at h
  cases y with
  | non => cases ht; unfold PySem.W.notFirst PySem.W.subIn; kernel_rfl
  | bl => cases ht; unfold PySem.W.notFirst PySem.W.subIn; kernel_rfl
  | int => cases ht; unfold PySem.W.notFirst PySem.W.subIn; kernel_rfl
  | str => cases ht; unfold PySem.W.notFirst PySem.W.subIn; kernel_rfl
  | tup => cases ht; unfold PySem.W.notFirst PySem.W.subIn; kernel_rfl
  | lst => cases ht; unfold PySem.W.notFirst PySem.W.subIn; kernel_rfl
  | dct => cases ht; unfold PySem.W.notFirst PySem.W.subIn; kernel_rfl
  | ins C' _ =>
    cases ht
    have h : C' = C := h
    subst h
    simp [PySem.W.notFirst]
  | exc C' _ =>
    cases ht
    have h : C' = C := h
    subst h
    simp [PySem.W.notFirst]
  | _ => cases ht
section
variable {X : Cx} {P : Gl0} {g : G} {gp : B → Prop} {eqs : Addr → Option Ctr} {k : Nat}
def hrO (X : Cx) (P : Gl0) (gp : B → Prop) (C : Addr) (c : Ctr) (ne : Bool) : R2 := fun x y H K => ∃ (a dx : Addr) (fs : List (Str × V)) (dy : D) (g : G) (R : Addr → Prop), x = .ref a ∧ H a = some (.ins C dx fs) ∧ Den P g R H y dy ∧ eqT P C dy ∧
  spD P gp 2 c [x, y] H (fun v H' => match ne with
    | true => ∃ r, v = .bl r ∧ K (.bl (!r)) H'
    | false => K v H') (fun _ _ _ => False)
theorem tyD_of {C : Addr} {y : D} (h : eqT P C y) : ∃ t, tyD P y = some t := by
  obtain ⟨_, h⟩ := h
  cases e : tyD P y with
  | none => rw [e] at h; exact h.elim
  | some t => exact ⟨t, rfl⟩
theorem op_eqO {C : Addr} {c : Ctr} (T : Txt X.K P) (Eq : EqC X.prog X.w X.K X.mg X.base P gp k C c) (hr : Room (k + 1) X.A) (hgd : X.A.guards = some []) : OpR X (compareOp .Eq) (hrO X P gp C c false) := by
  obtain ⟨f, fd, ps, hps, he, hf, hne, hb, F⟩ := Eq.ex
  intro pins s σ H x y v u Q I rx ry h
  obtain ⟨a, dx, fs, dy, g, R, rfl, ha, nd, ht, hsp⟩ := h
  cases (show v = Value.ref a from rx)
  obtain ⟨t, et⟩ := tyD_of ht
  obtain ⟨Pk, Z, pk, hx⟩ := kit_d T I ry nd et ht.1
  obtain ⟨mA, J, _⟩ := ins_get I.hok ha
  obtain ⟨od, J, _⟩ := J.look
  obtain ⟨m, hF⟩ := I.fr
  unfold compareOp
  refine PySem.W.cmp_K (op := .Eq) (tb := t) hr.units0 hF I.ok.mod.kin J (Z.ty _ _ I.kIn pk) (not_first ht et) he hf ?_
  have b := hb s [.ref a, u] I.kIn (by rw [hps]; rfl)
  rw [List.append_nil] at b
  refine wpAny_call (codeAny_mono (F.run X.A X.stack s H ⟨[.ref a, u], []⟩ [.ref a, u] [.ref a, y] _ _ (hr.mono (Nat.le_succ _)) hgd I.env0 b (.cons rx (.cons ry .nil)) hsp) fun r s' hq => ?_)
  cases r with
  | error e =>
    obtain ⟨_, _, _, _, _, _, _, _, _, _, _, _, z⟩ := hq
    exact z.elim
  | ok fl =>
    cases fl with
    | ret w' =>
      obtain ⟨v', H', I', rv, q⟩ := I.after hq
      cases v' with
      | non => cases (show w' = _ from rv); exact ⟨_, H', I', rv, q⟩
      | bl z => cases (show w' = _ from rv); exact ⟨_, H', I', rv, q⟩
      | int i => obtain ⟨t, e⟩ := (show ∃ t, w' = Value.int i t from rv); cases e; exact ⟨_, H', I', rv, q⟩
      | str i => obtain ⟨t, e⟩ := (show ∃ t, w' = Value.str i t from rv); cases e; exact ⟨_, H', I', rv, q⟩
      | byt i => obtain ⟨t, e⟩ := (show ∃ t, w' = Value.bytes i t from rv); cases e; exact ⟨_, H', I', rv, q⟩
      | flt i => obtain ⟨t, e⟩ := (show ∃ t, w' = Value.float i t from rv); cases e; exact ⟨_, H', I', rv, q⟩
      | ref a => cases (show w' = _ from rv); exact ⟨_, H', I', rv, q⟩
      | ty n => cases (show w' = _ from rv); exact ⟨_, H', I', rv, q⟩
    | next => exact False.elim hq
    | brk => exact False.elim hq
    | cont => exact False.elim hq
theorem in1_guards {A : Around} (h : A.guards = some []) : A.in1.guards = some [] := by
  first | exact h | simpa [Around.in1] using h
theorem op_neO {C : Addr} {c : Ctr} (T : Txt X.K P) (Eq : EqC X.prog X.w X.K X.mg X.base P gp k C c) (hr : Room (k + 1) X.A) (hgd : X.A.guards = some []) : OpR X (compareOp .NotEq) (hrO X P gp C c true) := by
  obtain ⟨f, fd, ps, hps, he, hf, hne, hb, F⟩ := Eq.ex
  intro pins s σ H x y v u Q I rx ry h
  obtain ⟨a, dx, fs, dy, g, R, rfl, ha, nd, ht, hsp⟩ := h
  cases (show v = Value.ref a from rx)
  obtain ⟨t, et⟩ := tyD_of ht
  obtain ⟨Pk, Z, pk, hx⟩ := kit_d T I ry nd et ht.1
  obtain ⟨mA, J, _⟩ := ins_get I.hok ha
  obtain ⟨od, J, _⟩ := J.look
  obtain ⟨m, hF⟩ := I.fr
  unfold compareOp
  refine PySem.W.cmpNe_K (tb := t) (by have := hr.un; omega) hF I.ok.mod.kin J (Z.ty _ _ I.kIn pk) (not_first ht et) hne he hf (T.ins C Eq.ins).2.2 ?_
  have b := hb s [.ref a, u] I.kIn (by rw [hps]; rfl)
  rw [List.append_nil] at b
  refine wpAny_call (codeAny_mono (F.run X.A.in1 X.stack s H ⟨[.ref a, u], []⟩ [.ref a, u] [.ref a, y] _ _ hr.in1 (in1_guards hgd) I.env0.in1 b (.cons rx (.cons ry .nil)) hsp) fun r s' hq => ?_)
  cases r with
  | error e =>
    obtain ⟨_, _, _, _, _, _, _, _, _, _, _, _, z⟩ := hq
    exact z.elim
  | ok fl =>
    cases fl with
    | ret w' =>
      obtain ⟨v', H', I', rv, r, rfl, q⟩ := I.after hq
      cases (show w' = _ from rv)
      exact ⟨r, rfl, .bl (!r), H', I', rfl, q⟩
    | next => exact False.elim hq
    | brk => exact False.elim hq
    | cont => exact False.elim hq
theorem o_eqO (T : Txt X.K P) (hE : ∀ C c, eqs C = some c → EqC X.prog X.w X.K X.mg X.base P gp k C c) (hr : Room (k + 1) X.A) (hgd : X.A.guards = some []) (hgp : gp g.toB) : OpD X P g (compareOp .Eq) (rEqO P eqs) := by
  obtain ⟨hS, s1, s2⟩ := o_eqS (X := X) (P := P) (g := g) hr.units
  refine ⟨fun x y H K => (∃ C c, eqs C = some c ∧ hrO X P gp C c false x y H K) ∨ hS x y H K, fun pins s σ H x y v u Q I rx ry h => ?_, fun σ H E H0 ss x y dx dy Q K S nx ny h kk => ?_⟩
  · rcases h with ⟨C, c, e, h⟩ | h
    · exact op_eqO T (hE C c e) hr hgd pins s σ H x y v u Q I rx ry h
    · exact s1 pins s σ H x y v u Q I rx ry h
  · unfold rEqO at h
    split at h
    · rename_i C fs
      split at h
      · rename_i c e
        obtain ⟨ht, hc⟩ := h
        obtain ⟨a, dx, vs, rfl, _, ha, hf⟩ := nx.of_ins
        exact .inl ⟨C, c, e, a, dx, vs, dy, g, _, rfl, ha, ny, ht, spD_at (Qx := fun _ _ => False) hgp S (.cons nx (.cons ny .nil)) rfl hc (fun v H' z => kk v H' z) fun _ _ _ _ _ _ z => z⟩
      · exact h.elim
    · exact .inr (s2 σ H E H0 ss x y _ dy Q K S nx ny h kk)
theorem o_neO (T : Txt X.K P) (hE : ∀ C c, eqs C = some c → EqC X.prog X.w X.K X.mg X.base P gp k C c) (hr : Room (k + 1) X.A) (hgd : X.A.guards = some []) (hgp : gp g.toB) : OpD X P g (compareOp .NotEq) (rNeO P eqs) := by
  obtain ⟨hS, s1, s2⟩ := o_neS (X := X) (P := P) (g := g) hr.units
  refine ⟨fun x y H K => (∃ C c, eqs C = some c ∧ hrO X P gp C c true x y H K) ∨ hS x y H K, fun pins s σ H x y v u Q I rx ry h => ?_, fun σ H E H0 ss x y dx dy Q K S nx ny h kk => ?_⟩
  · rcases h with ⟨C, c, e, h⟩ | h
    · exact op_neO T (hE C c e) hr hgd pins s σ H x y v u Q I rx ry h
    · exact s1 pins s σ H x y v u Q I rx ry h
  · unfold rNeO at h
    split at h
    · rename_i C fs
      split at h
      · rename_i c e
        obtain ⟨ht, hc⟩ := h
        obtain ⟨a, dx, vs, rfl, _, ha, hf⟩ := nx.of_ins
        refine .inl ⟨C, c, e, a, dx, vs, dy, g, _, rfl, ha, ny, ht, spD_at (Qx := fun _ _ => False) hgp S (.cons nx (.cons ny .nil)) rfl hc (fun v H' z => ?_) fun _ _ _ _ _ _ z => z⟩
        obtain ⟨d, S', e', n', q⟩ := z
        obtain ⟨b, rfl, q⟩ := q.bl
        cases n'
        exact ⟨b, rfl, kk _ _ ⟨_, S', e', .bl, q⟩⟩
      · exact h.elim
    · exact .inr (s2 σ H E H0 ss x y _ dy Q K S nx ny h kk)
end
end DL

set_option maxRecDepth 100000
set_option maxHeartbeats 4000000
namespace L2
open PySem PySem.Spec PyProof.Rows
theorem tuple_mul1 (l : Addr) (items : Array Value) (n : Nat) (dd : Option Addr) (sl : Array (Option Value)) (x : Int) (u : Tok) (c0 : (decide (x < -(2 ^ 63)) || decide (x ≥ 2 ^ 63)) = false) (c1 : (items.isEmpty || x == 1) = true) :
    Meets (Builtin.«tuple.__mul__» ⟨[.ref l, .int x u], []⟩) (fun _ R s => s.heap.get? l = some { cls := .type "tuple", dict := dd, data := .seq items n, slots := sl } ∧
      R (.ok (.ret (Value.ref l))) s) :=
  .of_wp fun prog w A R s h => by
    obtain ⟨hp, g, d, tk, os⟩ := s
    obtain ⟨hl, h⟩ := h
    have f1 := AutoSeq1.idx_int
    wp_walk using wpAny_loadPart' hl
    repeat (first
      | (refine wpAny_ite_false (decide_eq_false (by rw [c0]; exact Bool.false_ne_true)) ?_; wp_walk using wpAny_loadPart' hl)
      | (refine wpAny_ite_true (decide_eq_true (by rw [c1])) ?_; wp_walk using wpAny_loadPart' hl))
    exact ⟨_, rfl, h⟩
end L2
namespace L2
open PySem PySem.Spec PyProof.Rows
def rRep1 (K : PySem.W.Frag) : R2 := fun x y H Q => ∃ l xs, x = .ref l ∧ y = .int 1 ∧ SqT K H l xs ∧ Q (.ref l) H
theorem op_rep1 {X : Cx} : OpR X (binaryOp .Mult) (rRep1 X.K) := by
  intro pins s σ H x y v u Q I rx ry h
  obtain ⟨l, xs, rfl, rfl, hT, q⟩ := h
  cases rx
  obtain ⟨t, rfl⟩ := ry
  obtain ⟨its, r, ⟨⟨cls, dd, data, sl⟩, ho, hc, n, hd⟩, hs⟩ := I.tuple hT
  simp only at hc hd
  subst hc hd
  refine wpAny_binaryOp_repeat_ref (T := "tuple") (U := "int") (by decide) ⟨_, ho, rfl⟩ (fun s' => typeIs_int s' 1 t) noFill_tuple_mul F.fills_int_mul F.slot_int_rmul repeat_tuple F.slot_int_index.lookup
    (call_meets F.slot_int_rmul (typeIs_int s 1 t) F.entry_int_rmul (F.args_int_rmul_2 _ _) (int_rmul_tuple 1 t l its.toArray n dd sl)
      ⟨ho, rfl, ⟨_, ho, rfl⟩, call_meets F.slot_tuple_mul ⟨_, ho, rfl⟩ F.entry_tuple_mul (F.args_tuple_mul_2 _ _) (tuple_mul1 l its.toArray n dd sl 1 t (by decide) (by simp)) ⟨ho, ?_⟩⟩)
  exact ⟨.ref l, H, I, rfl, q⟩
end L2
namespace DL
open PySem PySem.Spec PyProof.Rows L2 LamX NdefX DLX
section
variable {X : Cx} {P : Gl0} {g : G} {e : Expr} {es : List Expr} {ta : TD} {tl : TL} {tt : TB} {pos p p2 p3 : Pos} {E : Ex} {H0 H : Hp} {ss : SS} {σ : L2.St} {x : Str}
def rMulA : RD := fun x y Q => match x, y with
  | .tup l, .int k => (l ≠ [] ∧ 1 ≤ k ∧ k ≤ 1000 ∧ l.length ≤ 1000) ∧ Q (.tup (List.replicate k.toNat l).flatten)
  | x, y => rMul x y Q
theorem o_mulA : OpD X P g (binaryOp .Mult) rMulA := by
  obtain ⟨hS, s1, s2⟩ := o_mul (X := X) (P := P) (g := g)
  refine ⟨_, op_rep1.or s1, fun σ H E H0 ss x y dx dy Q K S nx ny h kk => ?_⟩
  unfold rMulA at h
  split at h
  · rename_i l k
    obtain ⟨⟨h0, h1, h2, h3⟩, q⟩ := h
    by_cases e : k = 1
    · subst e
      cases ny
      obtain ⟨a, vs, rfl, n1, ha, l1⟩ := nx.of_tup
      refine .inl ⟨a, vs, rfl, rfl, SqT.of ha, kk _ _ (.now S (.tup n1 ha l1) ?_)⟩
      have : (List.replicate (Int.toNat 1) l).flatten = l := by simp
      rw [this] at q
      exact q
    · exact .inr (s2 σ H E H0 ss x y _ _ Q K S nx ny ⟨h0, ⟨by omega, h2, h3⟩, q⟩ kk)
  · exact .inr (s2 σ H E H0 ss x y _ _ Q K S nx ny h kk)
/-! ### sum of a list or a tuple -/
def rSumA : List D → (D → Prop) → Prop
  | [.lst l], Q => ∃ ns : List Int, l = ns.map .int ∧ Q (.int ns.sum)
  | [.tup l], Q => ∃ ns : List Int, l = ns.map .int ∧ Q (.int ns.sum)
  | _, _ => False
def rSumT (K : PySem.W.Frag) : List V → Hp → VK → Prop := fun vs H Q => ∃ (a : Addr) (ns : List Int), vs = [V.ref a] ∧ SqT K H a (ns.map V.int) ∧ Q (.int ns.sum) H
theorem preSum_of : ∀ (its : List Value) (ns : List Int), IntsAre its ns → ∃ xs : Array (Int × Tok), its.toArray = intItems xs ∧ preSum (numAt xs) xs.size = ns.sum := fun its ns hi => by
  obtain ⟨xs, e⟩ := hi.allInts.items
  have hn : numsOf (intItems xs).toList = ns := by rw [← e]; exact hi.numsOf
  rw [nums_intItems] at hn
  refine ⟨xs, e, ?_⟩
  rw [preSum_eq, List.take_of_length_le (by simp), hn]
theorem cr_sumT (hc : X.calm = true) : CallR X (.builtin "sum") (rSumT X.K) := by
  intro pins s σ H vs us Q I r h
  obtain ⟨a, ns, rfl, hs, q⟩ := h
  obtain ⟨its, rv, hl, _⟩ := I.tuple hs
  rw [Vals.ref1 r]
  obtain ⟨xs, e1, e2⟩ := preSum_of its ns rv.ints
  rw [e1] at hl
  refine PySem.W.ktm_sumG (I.ok.hd hc) hl fun h' tk t' hk => ?_
  rw [e2]
  exact ⟨.int _, H, I.kept hk, ⟨_, rfl⟩, q⟩
theorem c_sumA (hc : X.calm = true) : CallD X P g (.builtin "sum") rSumA := by
  refine ⟨_, (cr_sum hc).or (cr_sumT hc), fun σ H E H0 ss vs ds Q K S n q k => ?_⟩
  unfold rSumA at q
  split at q
  · obtain ⟨ns, rfl, q⟩ := q
    obtain ⟨v, rfl, m⟩ := n.one
    obtain ⟨p, vs, rfl, n, hp, l⟩ := m.of_lst
    have e := l.ints
    subst e
    exact .inl ⟨p, ns, rfl, SqL.of hp, k _ _ (.now S .int q)⟩
  · obtain ⟨ns, rfl, q⟩ := q
    obtain ⟨v, rfl, m⟩ := n.one
    obtain ⟨p, vs, rfl, n, hp, l⟩ := m.of_tup
    have e := l.ints
    subst e
    exact .inr ⟨p, ns, rfl, SqT.of hp, k _ _ (.now S .int q)⟩
  · exact q.elim
/-! ### repr of plain data -/
def rRepr : D → (D → Prop) → Prop := fun d Q => match d with
  | .int i => i.natAbs.log2 < 1920 ∧ Q (.str (toString i))
  | .tup l => ∃ p, toPd (.tup l) = some p ∧ p.showable = true ∧ (p.hasDict = false ∨ noList p = true) ∧ p.depth ≤ 60 ∧ p.shown.length ≤ sizeLine ∧ Q (.str p.shown)
  | .lst l => ∃ p, toPd (.lst l) = some p ∧ p.showable = true ∧ (p.hasDict = false ∨ noList p = true) ∧ p.depth ≤ 60 ∧ p.shown.length ≤ sizeLine ∧ Q (.str p.shown)
  | _ => False
def vRepr (ta : TD) : TD := fun ss Q Qx => ta ss (fun d => rRepr d Q) Qx
theorem d_repr (hr : Room 1 X.A) (hgd : X.A.guards = some []) (hg : Gl X "repr") (hm : X.mg "repr" = none) (he : DE X P g e ta)
    (h1 : starEach [e] X.env = (false, eval e X.env) :: starEach [] X.env := by rfl) (hpl : (backTo pos (starEach [] X.env)).any (·.1) = false := by rfl) : DE X P g (.Call (.Name "repr" p) [e] [] pos) (vRepr ta) := by
  refine ⟨fun pins s σ H E H0 ss Q Qx I S T h => ?_⟩
  refine wpAny_Call_Name_kw (ld_blt I hg hm (show bootBuiltins "repr" = some (.builtin "repr") from by first | rfl | decide +kernel) ?_ (by decide) (by decide))
  refine PyProof.Rows.callWith_builtin1 ?_ h1 hpl
  rw [h1]
  show wpAny _ _ (spliced ((false, eval e X.env) :: backTo pos (starEach [] X.env))) _ _ s
  refine Calls.spliced_cons (thn (he.run pins s σ H E H0 ss _ Qx I S T h) fun u s1 ⟨v, H1, I1, r, d, S1, e1, n1, hq⟩ => ?_)
  refine Calls.spliced_nil ?_
  have hu := hr.units
  have key : ∀ {a : Addr} {pd : PyData}, v = .ref a → toPd d = some pd → pd.showable = true → (pd.hasDict = false ∨ noList pd = true) → pd.depth ≤ 60 → pd.shown.length ≤ sizeLine → Q (.str pd.shown) →
      wpAny (model X.prog X.w) X.A (call (.builtin "repr") [u]) (EP X pins σ (EPD P g E H0 ss σ H Q)) X.xe s1 := fun {a pd} ev hp hsh hdl hdep hsz q => by
    subst ev
    cases (show u = Value.ref a from r)
    obtain ⟨as, rd, rb⟩ := den_rd I1 n1 hp r
    refine repr_of_reads' rd hsh (fun hd m => ?_) hgd (by omega) (fun _ _ z => z) (fun h' u tk k => ?_) hsz
    · rcases hdl with z | z
      · rw [z] at hd; cases hd
      · exact rb z m
    · exact ⟨.str _, _, I1.kept (t' := tk) k, ⟨_, rfl⟩, _, S1, e1, .str, q⟩
  dsimp only [rRepr] at hq
  split at hq
  · rename_i i
    cases n1
    obtain ⟨t, ht⟩ := (show ∃ t, u = Value.int i t from r)
    subst ht
    exact PySem.P.repr_of_int hq.1 ⟨.str _, H1, I1.tok _, ⟨_, rfl⟩, _, S1, e1, .str, hq.2⟩
  · obtain ⟨a, vs, ev, _⟩ := n1.of_tup
    obtain ⟨pd, h1, h2, h3, h4, h5, h6⟩ := hq
    exact key ev h1 h2 h3 h4 h5 h6
  · obtain ⟨a, vs, ev, _⟩ := n1.of_lst
    obtain ⟨pd, h1, h2, h3, h4, h5, h6⟩ := hq
    exact key ev h1 h2 h3 h4 h5 h6
  · exact hq.elim
/-! ### isinstance(e, (A, B)) -/
def vIsiT (K : PySem.W.Frag) (P : Gl0) (us : List Value) (ta : TD) : TD := fun ss Q Qx => ta ss (fun d => okI P d ∧ ∃ t b, tyD P d = some t ∧ PySem.W.kitAny K t us = some b ∧ Q (.bl b)) Qx
theorem d_isiT {K : PySem.W.Frag} (hK : X.K = K) {c1 c2 : Str} {u1 u2 : Value} {kk : Nat} {p4 p5 : Pos} (T : Txt X.K P) (hg : Gl X "isinstance") (hm : X.mg "isinstance" = none) (he : DE X P g e ta) (hg1 : Gl X c1) (hg2 : Gl X c2) (h1 : ClsN X c1 u1) (h2 : ClsN X c2 u2) (hd1 : (c1 == ("__debug__" : Str)) = false := by decide) (hd2 : (c2 == ("__debug__" : Str)) = false := by decide)
    (hs : starEach [e, .Tuple [.Name c1 p4, .Name c2 p5] kk p2] X.env = (false, eval e X.env) :: starEach [.Tuple [.Name c1 p4, .Name c2 p5] kk p2] X.env := by rfl) (hpl : (backTo pos (starEach [.Tuple [.Name c1 p4, .Name c2 p5] kk p2] X.env)).any (·.1) = false := by rfl) :
    DE X P g (.Call (.Name "isinstance" p) [e, .Tuple [.Name c1 p4, .Name c2 p5] kk p2] [] pos) (vIsiT K P [u1, u2] ta) := by
  subst hK
  have cls : ∀ {c : Str} {u : Value} {pp : Pos}, Gl X c → ClsN X c u → (c == ("__debug__" : Str)) = false → ∃ cv : V, PE X (.Name c pp) (tC cv) ∧ ClsV cv u := fun {c u pp} hg hc hdb => by
    cases hc with
    | own h => exact ⟨.ref _, pe_glob hg h rfl hdb, .own _⟩
    | ty h1 h2 h3 => exact ⟨.ty _, pe_bltn hg h1 h2 rfl h3 hdb, .ty _⟩
  obtain ⟨v1, q1, k1⟩ := cls (pp := p4) hg1 h1 hd1
  obtain ⟨v2, q2, k2⟩ := cls (pp := p5) hg2 h2 hd2
  refine ⟨fun pins s σ H E H0 ss Q Qx I S T' h => ?_⟩
  refine wpAny_Call_Name_kw (ld_blt I hg hm (show bootBuiltins "isinstance" = some (.builtin "isinstance") from by first | rfl | decide +kernel) ?_ (by decide) (by decide))
  refine PyProof.Rows.callWith_builtin1 (thn ((pa_cons he.pe (pa_cons (pe_tup (pa_cons q1 (pa_cons q2 pa_nil))) pa_nil) hs).run pos pins s σ H (fun vs H' => ∃ v d tp, vs = [v, .ref tp] ∧ H' tp = some (.tup [v1, v2]) ∧ Stt P g E H0 ss σ H' ∧ Ext g.W H H' ∧ Den P g (Rg g E σ ss) H' v d ∧ okI P d ∧ ∃ t b, tyD P d = some t ∧ PySem.W.kitAny X.K t [u1, u2] = some b ∧ Q (.bl b)) I
    (upE.run S T' h fun v H1 d S1 e1 n1 q1 => ⟨by show 2 ≤ sizeLine; decide, fun tp htp => ⟨v, d, tp, rfl, upd_same, S1.new htp, e1.trans (Ext.new htp), den_W (Ext.new htp) n1, q1⟩⟩)) fun us s1 ⟨vs, H1, I1, r1, v, d, tp, ev, htp, S1, e1, n1, ho, t, b, ht, hb, q⟩ => ?_) hs hpl
  subst ev
  obtain ⟨w1, w2, rfl, ra, rb⟩ := vals2 r1
  cases (show w2 = Value.ref tp from rb)
  obtain ⟨Pk, Z, pk, hx⟩ := kit_d T I1 ra n1 ht ho
  obtain ⟨_, its, rv, o, g1, g2, n, g3⟩ := (show ObjOk X.prog X.w H1 s1.heap tp (.tup [v1, v2]) from I1.hok tp _ htp)
  have e3 := ClsV.all (.cons k1 (.cons k2 .nil)) rv
  subst e3
  obtain ⟨oc, od, dt, sl⟩ := o
  simp only at g2 g3
  subst g2 g3
  exact PySem.W.kia_tup Z I1.kIn pk g1 hb hx fun tk => ⟨.bl b, H1, I1.tok tk, rfl, _, S1, e1, .bl, q⟩
/-! ### lists of one's own, lent to a callee whose answer tells of no list -/
mutual
def noL : D → Bool
  | .non => true
  | .bl _ => true
  | .int _ => true
  | .str _ => true
  | .tup l => noLL l
  | .lst _ => false
  | .dct kvs => noLK kvs
  | .ins _ fs => noLF fs
  | .insA _ _ fs => false
  | .exc _ fs => noLF fs
  | .clo _ _ => true
  | .box _ => true
  | .fn _ => true
def noLL : List D → Bool
  | [] => true
  | d :: ds => noL d && noLL ds
def noLK : List (D × D) → Bool
  | [] => true
  | (_, d) :: ds => noL d && noLK ds
def noLF : List (Str × D) → Bool
  | [] => true
  | (_, d) :: ds => noL d && noLF ds
end
theorem noLK_zip : ∀ {ks ds : List D}, ks.length = ds.length → noLK (ks.zip ds) = true → noLL ds = true
  | [], [], _, _ => rfl
  | k :: ks, d :: ds, h, z => by
    simp only [List.zip_cons_cons, noLK, Bool.and_eq_true] at z
    simp only [noLL, Bool.and_eq_true]
    exact ⟨z.1, noLK_zip (by simpa using h) z.2⟩
  | [], _ :: _, h, _ => by simp at h
  | _ :: _, [], h, _ => by simp at h
section
variable {R R' : Addr → Prop}
mutual
theorem noL_den (hR : ∀ a, R' a → R a ∨ ∃ vs, H a = some (.lst vs)) : ∀ {v : V} {d : D}, Den P g R H v d → noL d = true → Den P g R' H v d
  | _, _, .non, _ => .non
  | _, _, .bl, _ => .bl
  | _, _, .int, _ => .int
  | _, _, .str, _ => .str
  | _, _, .tup n h l, z => .tup (fun r => (hR _ r).elim n fun ⟨vs, q⟩ => by rw [h] at q; cases q) h (noL_denL hR l (by simpa only [noL] using z))
  | _, _, .lst n h l, z => by simp only [noL] at z; cases z
  | _, _, .dK n h l u, z => .dK (fun r => (hR _ r).elim n fun ⟨vs, q⟩ => by rw [h] at q; cases q) h (noL_denL hR l (by rw [noL] at z; refine noLK_zip ?_ z; have := l.length; simp at this ⊢; exact this)) u
  | _, _, .dT n h l u, z => .dT (fun r => (hR _ r).elim n fun ⟨vs, q⟩ => by rw [h] at q; cases q) h (noL_denL hR l (by rw [noL] at z; refine noLK_zip ?_ z; have := l.length; simp at this ⊢; exact this)) u
  | _, _, .ins n h l, z => .ins (fun r => (hR _ r).elim n fun ⟨vs, q⟩ => by rw [h] at q; cases q) h (noL_denF hR l (by simpa only [noL] using z))
  | _, _, .insA n h l, z => by simp only [noL] at z; cases z
  | _, _, .exc0 n h, z => .exc0 (fun r => (hR _ r).elim n fun ⟨vs, q⟩ => by rw [h] at q; unfold ExvO at q; cases q) h
  | _, _, .exc n n' h h' l, z => .exc (fun r => (hR _ r).elim n fun ⟨vs, q⟩ => by rw [h] at q; unfold ExvO at q; cases q) (fun r => (hR _ r).elim n' fun ⟨vs, q⟩ => by rw [h'] at q; cases q) h h' (noL_denF hR l (by simpa only [noL] using z))
  | _, _, .clo s n n' h h', z => .clo s (fun r => (hR _ r).elim n fun ⟨vs, q⟩ => by rw [h] at q; unfold CloO at q; cases q) (fun r => (hR _ r).elim n' fun ⟨vs, q⟩ => by rw [h'] at q; unfold CodeO at q; cases q) h h'
  | _, _, .box b, _ => .box b
  | _, _, .fn b, _ => .fn b
theorem noL_denL (hR : ∀ a, R' a → R a ∨ ∃ vs, H a = some (.lst vs)) : ∀ {vs : List V} {ds : List D}, DenL P g R H vs ds → noLL ds = true → DenL P g R' H vs ds
  | _, _, .nil, _ => .nil
  | _, _, .cons h t, z => by
    simp only [noLL, Bool.and_eq_true] at z
    exact .cons (noL_den hR h z.1) (noL_denL hR t z.2)
theorem noL_denF (hR : ∀ a, R' a → R a ∨ ∃ vs, H a = some (.lst vs)) : ∀ {vs : List (Str × V)} {fs : List (Str × D)}, DenF P g R H vs fs → noLF fs = true → DenF P g R' H vs fs
  | _, _, .nil, _ => .nil
  | _, _, .cons h t, z => by
    simp only [noLF, Bool.and_eq_true] at z
    exact .cons (noL_den hR h z.1) (noL_denF hR t z.2)
end
end
/-- the slot i holds a list, if it is one's own -/
def ownL (ss : SS) (i : Nat) : Prop := match ss[i]? with
  | some (.own (.lst _)) => True
  | some (.own _) => False
  | _ => True
def vBorL (is : List Nat) (t : TD) : TD := fun ss Q Qx => (∀ i ∈ is, ownL ss i) ∧ t (frz is ss) (fun d => noL d = true ∧ Q d) Qx
theorem frz1_own {i j : Nat} {d : D} (h : ss[j]? = some (.own d)) (hj : (DL.frz1 i ss)[j]? ≠ some (.own d)) : j = i := by
  unfold DL.frz1 at hj
  split at hj
  · by_cases e : j = i
    · exact e
    · rw [get_set_ne e] at hj
      exact absurd h hj
  · exact absurd h hj
theorem frz_own : ∀ {is : List Nat} {ss : SS} {j : Nat} {d : D}, ss[j]? = some (.own d) → (DL.frz is ss)[j]? = some (.own d) ∨ j ∈ is
  | [], _, _, _, h => .inl h
  | i :: is, ss, j, d, h => by
    by_cases hj : (DL.frz1 i ss)[j]? = some (.own d)
    · rcases frz_own (is := is) hj with q | q
      · exact .inl q
      · exact .inr (List.mem_cons_of_mem _ q)
    · rw [frz1_own h hj]
      exact .inr List.mem_cons_self
theorem d_borL (is : List Nat) (h : DE X P g e ta) : DE X P g e (vBorL is ta) := DE.of h.pe fun σ H E H0 ss Q Qx S T ht => by
  obtain ⟨hL, ht⟩ := ht
  refine upE.run S.frz T ht fun v H' d S' e' n q => ⟨d, S.back S' e', e', noL_den (fun a r => ?_) n q.1, q.2⟩
  rcases r with r | r | ⟨j, d', h1, h2⟩
  · exact .inl (.inl r)
  · exact .inl (.inr (.inl r))
  · rcases frz_own (is := is) h1 with z | z
    · exact .inl (.inr (.inr ⟨j, d', z, h2⟩))
    · have hj := hL j z
      unfold ownL at hj
      rw [h1] at hj
      cases d' with
      | lst l =>
        obtain ⟨p, h3, _, nM, _, c⟩ := S.own j _ h1
        rw [h2] at h3
        cases h3
        cases c with
        | lst hp _ => exact .inr ⟨_, e'.keep _ _ hp NT.lst fun w => nM (g.hW _ w)⟩
      | _ => exact hj.elim
end
end DL

set_option maxRecDepth 100000
set_option maxHeartbeats 4000000
namespace DL
open PySem PySem.Spec PyProof.Rows L2 LamX NdefX DLX

/-! ### data and their types -/
def tyS : D → Option String
  | .non => some "NoneType"
  | .bl _ => some "bool"
  | .int _ => some "int"
  | .str _ => some "str"
  | .tup _ => some "tuple"
  | .lst _ => some "list"
  | .dct _ => some "dict"
  | _ => none
def subT (n m : String) : Bool := n == m || (n == "bool" && m == "int")
theorem tyS_D {P : Gl0} {d : D} {n : String} (h : tyS d = some n) : tyD P d = some (.type n) ∧ okI P d := by
  cases d <;> first | (cases h; exact ⟨rfl, trivial⟩) | cases h
theorem kit_SS {K : PySem.W.Frag} {d : D} {n m : String} (h : tyS d = some n) (hm : m ∈ (["int", "bool", "str", "tuple", "list", "dict"] : List String)) : PySem.W.kitOne K (.type n) (.type m) = some (subT n m) := by
  refine kit_ty ?_
  simp only [List.mem_cons, List.not_mem_nil, or_false] at hm
  cases d <;> first
    | (cases h; rcases hm with rfl | rfl | rfl | rfl | rfl | rfl <;> decide +kernel)
    | cases h
theorem isi_SS {K : PySem.W.Frag} {P : Gl0} {d : D} {n m : String} {Q : Bool → Prop} (hP : P.isa = PySem.W.kitOne K) (h : tyS d = some n) (hm : m ∈ (["int", "bool", "str", "tuple", "list", "dict"] : List String)) (q : Q (subT n m)) : okI P d ∧ ∃ t b, tyD P d = some t ∧ P.isa t (.type m) = some b ∧ Q b :=
  ⟨(tyS_D h).2, _, _, (tyS_D h).1, by rw [hP]; exact kit_SS h hm, q⟩
theorem isi_S2 {K : PySem.W.Frag} {P : Gl0} {d : D} {n m1 m2 : String} {Q : Bool → Prop} (h : tyS d = some n) (h1 : m1 ∈ (["int", "bool", "str", "tuple", "list", "dict"] : List String)) (h2 : m2 ∈ (["int", "bool", "str", "tuple", "list", "dict"] : List String)) (q : Q (subT n m1 || subT n m2)) :
    okI P d ∧ ∃ t b, tyD P d = some t ∧ PySem.W.kitAny K t [.type m1, .type m2] = some b ∧ Q b :=
  ⟨(tyS_D h).2, _, _, (tyS_D h).1, kitAny_cons (kit_SS h h1) (fun e => kitAny_cons (kit_SS h h2) (fun e2 => by rw [kitAny_nil, e, e2]; rfl) (fun e2 => by rw [e, e2]; rfl)) (fun e => by rw [e]; rfl), q⟩
/-- an own class without bases, looked at -/
structure InsK (K : PySem.W.Frag) (C : Addr) : Prop where
  cls : Cls K C
  cl : PySem.W.findIn K (.ref C) "__class__" = some (some (.builtin "object.__class__"))
  ty : PySem.W.typeIn K (.ref C) = some (.type "type")
  mro : ∃ cd, PySem.W.clsIn K C = some cd ∧ cd.mro = [.ref C, .type "object"]
theorem InsK.mroIn {K : PySem.W.Frag} {C : Addr} (h : InsK K C) (v : Value) : PySem.W.mroIn K C v = some (([.ref C, .type "object"] : List Value).contains v) := by
  obtain ⟨cd, h1, h2⟩ := h.mro
  unfold PySem.W.mroIn
  rw [h1, Option.bind_some, h2, if_neg (by simp)]
theorem kit_SI {K : PySem.W.Frag} {C : Addr} {d : D} {n : String} (hC : InsK K C) (h : tyS d = some n) : PySem.W.kitOne K (.type n) (.ref C) = some false := by
  unfold PySem.W.kitOne
  rw [if_neg (by simp)]
  unfold PySem.W.kitCls
  obtain ⟨cd, h1, _⟩ := hC.mro
  dsimp only
  rw [h1, hC.ty, if_pos (by rfl)]
  cases d <;> first
    | (cases h; unfold PySem.W.subIn; kernel_rfl)
    | cases h
theorem kit_II {K : PySem.W.Frag} {C : Addr} : PySem.W.kitOne K (.ref C) (.ref C) = some true := by
  unfold PySem.W.kitOne
  rw [if_pos (by simp)]
/-- whether it is an instance of the class at C, where that is known -/
def isIns (C : Addr) : D → Option Bool
  | .ins c _ => if c = C then some true else none
  | d => (tyS d).map fun _ => false
theorem isi_I {K : PySem.W.Frag} {P : Gl0} {C : Addr} {d : D} {b : Bool} {Q : Bool → Prop} (hP : P.isa = PySem.W.kitOne K) (hC : InsK K C) (hI : P.insC C) (h : isIns C d = some b) (q : Q b) : okI P d ∧ ∃ t b, tyD P d = some t ∧ P.isa t (.ref C) = some b ∧ Q b := by
  have simple : ∀ {d : D}, (tyS d).map (fun _ => false) = some b → okI P d ∧ ∃ t b, tyD P d = some t ∧ P.isa t (.ref C) = some b ∧ Q b := fun {d} e => by
    obtain ⟨n, e1, e2⟩ := Option.map_eq_some_iff.mp e
    exact ⟨(tyS_D e1).2, _, _, (tyS_D e1).1, by rw [hP]; exact kit_SI hC e1, by rw [e2]; exact q⟩
  cases d with
  | ins c fs =>
    have h : (if c = C then some true else none) = some b := h
    by_cases e : c = C
    · rw [if_pos e] at h
      cases h
      subst e
      exact ⟨hI, _, _, rfl, by rw [hP]; exact kit_II, q⟩
    · rw [if_neg e] at h
      cases h
  | _ => exact simple h
/-- an own exception, asked for its class -/
theorem isi_E {K : PySem.W.Frag} {P : Gl0} {CB C C' : Addr} {fs : List (Str × D)} {Q : Bool → Prop} (hP : P.isa = PySem.W.kitOne K) (hE : P.excC C) (h : ExcK K CB C) (h' : ExcK K CB C') (hne : C' ≠ CB) (q : Q (decide (C = C'))) : okI P (.exc C fs) ∧ ∃ t b, tyD P (.exc C fs) = some t ∧ P.isa t (.ref C') = some b ∧ Q b :=
  ⟨hE, _, _, rfl, by rw [hP]; exact isa_cc h h' hne, q⟩
/-! ### plain data compared -/
theorem toPyL_ints : ∀ ns : List Int, toPyL (ns.map D.int) = some (ns.map PyData.int)
  | [] => rfl
  | i :: ns => by
    rw [List.map_cons, List.map_cons]
    simp only [toPyL, toPy, toPyL_ints ns]
theorem eqv_int (i j : Int) : PyData.eqv (.int i) (.int j) = decide (i = j) := by
  simp only [PyData.eqv]
  rfl
theorem eqvAll_ints : ∀ ns ms : List Int, PyData.eqvAll (ns.map PyData.int) (ms.map PyData.int) = decide (ns = ms)
  | [], [] => rfl
  | [], m :: ms => by simp [PyData.eqvAll]
  | n :: ns, [] => by simp [PyData.eqvAll]
  | n :: ns, m :: ms => by
    rw [List.map_cons, List.map_cons]
    simp only [PyData.eqvAll, eqvAll_ints ns ms, eqv_int]
    by_cases h1 : n = m <;> by_cases h2 : ns = ms <;> simp [h1, h2]
theorem shaped_tup_ints (ls : List Int) : SeqAt.shaped (.tuple (ls.map PyData.int)) = true := by
  unfold SeqAt.shaped
  simp only [PyData.canLay0, PyData.depth, lay_ints, dep_ints]
  rfl
theorem eq_tup_ints {ns ms : List Int} {Q : D → Prop} (h : Q (.bl (decide (ns = ms)))) : rEqS (.tup (ns.map D.int)) (.tup (ms.map D.int)) Q := by
  show rEq (.tup (ns.map D.int)) (.tup (ms.map D.int)) Q
  unfold rEq
  simp only [toPy, toPyL_ints, Option.map_some]
  refine ⟨shaped_tup_ints ns, shaped_tup_ints ms, ?_⟩
  simp only [PyData.eqv, eqvAll_ints]
  exact h
theorem eq_lst_ints {ns ms : List Int} {Q : D → Prop} (h : Q (.bl (decide (ns = ms)))) : rEqS (.lst (ns.map D.int)) (.lst (ms.map D.int)) Q := by
  show rEq (.lst (ns.map D.int)) (.lst (ms.map D.int)) Q
  unfold rEq
  simp only [toPy, toPyL_ints, Option.map_some]
  refine ⟨shaped_ints ns, shaped_ints ms, ?_⟩
  simp only [PyData.eqv, eqvAll_ints]
  exact h
end DL

set_option maxRecDepth 100000
set_option maxHeartbeats 4000000
namespace DL
open PySem PySem.Spec PyProof.Rows L2 LamX NdefX DLX

/-! ### except BasisError -/
theorem exm_EK {K : PySem.W.Frag} {CB C : Addr} (h : ExcK K CB C) (hB : ExcK K CB CB) : PySem.W.exmOne K (.ref C) (.ref CB) = some true := by
  unfold PySem.W.exmOne
  have h1 : PySem.W.subIn K (.ref CB) (.type "BaseException") = some true := by
    show PySem.W.mroIn K CB _ = _
    rw [hB.mroIn]
    unfold mroL
    split <;> simp
  rw [h1, if_pos (by rfl)]
  unfold PySem.W.kitCls
  obtain ⟨cd, h2, _⟩ := hB.mro
  dsimp only
  rw [h2, hB.ty, if_pos (by rfl)]
  show PySem.W.mroIn K C _ = _
  rw [h.mroIn]
  unfold mroL
  split <;> simp_all
open Classical in
noncomputable def isaP (exc : Addr → Prop) : Addr → Option Bool := fun c => if exc c then some true else none
theorem isaP_at {exc : Addr → Prop} {c : Addr} (h : exc c) : isaP exc c = some true := if_pos h
theorem hisa {K : PySem.W.Frag} {exc : Addr → Prop} {CB : Addr} (h : ∀ c, exc c → ExcK K CB c) (hB : ExcK K CB CB) : ∀ C b, isaP exc C = some b → PySem.W.exmOne K (.ref C) (.ref CB) = some b := fun C b e => by
  unfold isaP at e
  split at e
  · rename_i q
    cases e
    exact exm_EK (h C q) hB
  · cases e
/-! ### closures of a def, gathered -/
/-- a def's table of code objects, by its code object -/
structure LTab (base : Heap) (mg : Str → Option Value) (P : Gl0) (c : Addr) (nm : Nat → Nat → Str) : Prop where
  ex : ∃ P0, TabB base mg c P0 ∧ (P0, nm) ∈ P.T ∧ ∀ p ∈ P.T, p.1 = P0 → p.2 = nm
theorem LTab.lam {X : Cx} {P : Gl0} {c : Addr} {nm : Nat → Nat → Str} (L : LTab X.base X.mg P c nm) (h : X.env.code = .ref c) : LamT X P nm := by
  obtain ⟨P0, h1, h2, h3⟩ := L.ex
  exact ⟨c, P0, h1, h, h2, h3⟩
def tbNil : Nat → Option CloT := fun _ => none
def tbCons (k : Nat) (c : CloT) (tb : Nat → Option CloT) : Nat → Option CloT := fun i => if i = k then some c else tb i
structure CloD (Pr : Program) (w : World) (K : PySem.W.Frag) (mg : Str → Option Value) (base : Heap) (P : Gl0) (gp : B → Prop) (k : Nat) (sc : Scope) (N : List Str) (tb : Nat → Option CloT) : Prop where
  clo : ∀ i c, tb i = some c → ∃ S N' ps fr, P.S i = some S ∧ CloB Pr w K mg base P gp k S N' ps fr c ∧ (∀ y ∈ S.scope.names, y.2 = .free → sc.names.lookup y.1 = some .cell ∨ sc.names.lookup y.1 = some .free) ∧ (∀ y ∈ fr, (y, NameKind.free) ∈ S.scope.names) ∧ c.js.map (fun j => N[j]?) = fr.map some
section
variable {Pr : Program} {w : World} {K : PySem.W.Frag} {mg : Str → Option Value} {base : Heap} {P : Gl0} {gp : B → Prop} {k : Nat} {sc : Scope} {N N' ps fr : List Str} {tb : Nat → Option CloT} {S : CloS} {n m : Nat} {js : List Nat}
theorem CloD.nil : CloD Pr w K mg base P gp k sc N tbNil := ⟨fun i c h => by cases h⟩
/-- a lambda -/
theorem CloD.lam (i : Nat) {e : Expr} {te : TD} (hS : P.S i = some S) (hb : S.body = .expr e) (sc' : NScopeC N' ps fr S.scope) (hnd : ndefB sc S.scope fr = true) (hjs : js.map (fun j => N[j]?) = fr.map some)
    (bind : ∀ (cl : List (Str × Addr)) (c' : Addr) (doc pm ctv : Value) (us : List Value), us.length = ps.length → bindArgs (S.fd cl c' doc pm ctv) ⟨us, []⟩ = pure (ps.zip us))
    (body : ∀ (g : G), gp g.toB → ∀ (cl : List (Str × Addr)) (c' f : Addr) (A : Around) (outer : List Env) (s : Shared) (H : Hp) (E : XK), Room k (A.deeper (envF (S.nf cl c') f s.heap.objs.size)) → (A.deeper (envF (S.nf cl c') f s.heap.objs.size)).guards = some [] →
      DE (ncx (L2.CX Pr w) Pr w K mg base N' (S.nf cl c') f A outer s H E) P g e te) (D : CloD Pr w K mg base P gp k sc N tb) (hn : ps.length = n := by rfl) (hnn : N'.length = n + (js.length + m) := by rfl) (hjl : js.length = fr.length := by rfl) :
    CloD Pr w K mg base P gp k sc N (tbCons i ⟨n, js, m, vRet te⟩ tb) := by
  refine ⟨fun j c h => ?_⟩
  unfold tbCons at h
  by_cases e : j = i
  · rw [if_pos e] at h
    cases h
    subst e
    exact ⟨S, N', ps, fr, hS, ⟨sc', hn, hjl, hnn, bind, fun g hg cl c' f A outer s H E hr hgd => by rw [hb]; exact ⟨te, rfl, body g hg cl c' f A outer s H E hr hgd⟩⟩, ndef_free hnd, ndef_fr hnd, hjs⟩
  · rw [if_neg e] at h
    exact D.clo j c h
/-- a nested def -/
theorem CloD.defn (i : Nat) {b : List Stmt} {t : TSt} (hS : P.S i = some S) (hb : S.body = .stmts b) (sc' : NScopeC N' ps fr S.scope) (hnd : ndefB sc S.scope fr = true) (hjs : js.map (fun j => N[j]?) = fr.map some)
    (bind : ∀ (cl : List (Str × Addr)) (c' : Addr) (doc pm ctv : Value) (us : List Value), us.length = ps.length → bindArgs (S.fd cl c' doc pm ctv) ⟨us, []⟩ = pure (ps.zip us))
    (body : ∀ (g : G), gp g.toB → ∀ (cl : List (Str × Addr)) (c' f : Addr) (A : Around) (outer : List Env) (s : Shared) (H : Hp) (E : XK), Room k (A.deeper (envF (S.nf cl c') f s.heap.objs.size)) → (A.deeper (envF (S.nf cl c') f s.heap.objs.size)).guards = some [] →
      DSs (ncx (L2.CX Pr w) Pr w K mg base N' (S.nf cl c') f A outer s H E) P g b t) (D : CloD Pr w K mg base P gp k sc N tb) (hn : ps.length = n := by rfl) (hnn : N'.length = n + (js.length + m) := by rfl) (hjl : js.length = fr.length := by rfl) :
    CloD Pr w K mg base P gp k sc N (tbCons i ⟨n, js, m, t⟩ tb) := by
  refine ⟨fun j c h => ?_⟩
  unfold tbCons at h
  by_cases e : j = i
  · rw [if_pos e] at h
    cases h
    subst e
    exact ⟨S, N', ps, fr, hS, ⟨sc', hn, hjl, hnn, bind, fun g hg cl c' f A outer s H E hr hgd => by rw [hb]; exact body g hg cl c' f A outer s H E hr hgd⟩, ndef_free hnd, ndef_fr hnd, hjs⟩
  · rw [if_neg e] at h
    exact D.clo j c h
theorem CloD.frB {X : Cx} (D : CloD X.prog X.w X.K X.mg X.base P gp k X.env.scope X.N tb) (h : ∀ y c, X.env.cells.lookup y = some c → X.fn y = true := by exact fun _ _ _ => rfl) : FrB X P gp k tb := ⟨h, D.clo⟩
end
theorem ap_clo {tb : Nat → Option CloT} {cs : List (Str × Addr)} {ss : SS} {i : Nat} {c : CloT} {ds : List D} {Q : D → Prop} {Qx : Err → Prop} (h : tb i = some c) (q : c.run ss ds Q Qx) : apF tb cs ss (.clo i cs) ds Q Qx := by
  unfold apF
  dsimp only
  rw [h]
  exact ⟨rfl, q⟩
/-! ### defs and classes called by keywords -/
structure FDK (Pr : Program) (w : World) (K : PySem.W.Frag) (mg : Str → Option Value) (base : Heap) (x : Str) (k : Nat) (ps ks : List Str) (is : List Nat) (sp : Sp) : Prop where
  ex : ∃ (f : Addr) (fd : FuncData), mg x = some (.ref f) ∧ PySem.W.keepIn K (.ref f) = true ∧ KWB K fd ps 0 ks is ∧ FnG Pr w K mg base (L2.CX Pr w) k f fd ps sp
structure FMK (Pr : Program) (w : World) (K : PySem.W.Frag) (mg : Str → Option Value) (base : Heap) (x : Str) (C : Addr) (k : Nat) (ps ks : List Str) (is : List Nat) (sp : Sp) : Prop where
  ex : ∃ (f : Addr) (fd : FuncData), mg x = some (.ref C) ∧ Mk K C f ∧ KWB K fd ps 1 ks is ∧ FnG Pr w K mg base (L2.CX Pr w) k f fd ps sp
section
variable {X : Cx} {P : Gl0} {g : G} {tl : TL} {pos p : Pos} {x : Str} {kws : List Keyword} {gp : B → Prop} {c : Ctr} {C : Addr} {ps ks : List Str} {k n : Nat} {is : List Nat}
theorem d_callKF (F : FDK X.prog X.w X.K X.mg X.base x k ps ks is (spD P gp n c)) (hr : Room k X.A) (hgd : X.A.guards = some []) (hg : Gl X x) (hgp : gp g.toB) (hkw : DK X P g kws tl) (hin : is.length = n := by rfl) (his : ∀ i ∈ is, i < ks.length := by decide)
    (hall : (backToKw pos (keywordEach kws X.env)).all (·.1.isSome) = true := by rfl) (hks : (backToKw pos (keywordEach kws X.env)).filterMap (·.1) = ks := by rfl) (hdb : (x == ("__debug__" : Str)) = false := by decide) (hpl : ((backTo pos (starEach [] X.env)).any (·.1) || (backToKw pos (keywordEach kws X.env)).any (·.1.isNone)) = false := by rfl) :
    DE X P g (.Call (.Name x p) [] kws pos) (vCallK ks.length is c tl) := by
  obtain ⟨f, fd, hm, hk, hb, F⟩ := F.ex
  exact d_callK F hm hk hr hgd hg hb hgp hkw hin his hall hks hdb hpl
theorem d_makeKF (F : FMK X.prog X.w X.K X.mg X.base x C k ps ks is (spI P gp n C c)) (hr : Room (k + 1) X.A) (hgd : X.A.guards = some []) (hg : Gl X x) (hgp : gp g.toB) (hkw : DK X P g kws tl) (hin : is.length = n := by rfl) (his : ∀ i ∈ is, i < ks.length := by decide)
    (hall : (backToKw pos (keywordEach kws X.env)).all (·.1.isSome) = true := by rfl) (hks : (backToKw pos (keywordEach kws X.env)).filterMap (·.1) = ks := by rfl) (hdb : (x == ("__debug__" : Str)) = false := by decide) (hpl : ((backTo pos (starEach [] X.env)).any (·.1) || (backToKw pos (keywordEach kws X.env)).any (·.1.isNone)) = false := by rfl) :
    DE X P g (.Call (.Name x p) [] kws pos) (vCallK ks.length is c tl) := by
  obtain ⟨f, fd, hm, M, hb, F⟩ := F.ex
  exact d_makeK F hm M hb hr hgd hg hgp hkw hin his hall hks hdb hpl
end
/-! ### steps of invariants -/
theorem map_step {α β : Type} {l : List α} {i : Nat} {d : α} (f : α → β) (h : l[i]? = some d) : (l.take i).map f ++ [f d] = (l.take (i + 1)).map f := by
  rw [List.take_succ, h, List.map_append]
  rfl
theorem fm_step {α β : Type} {l : List α} {i : Nat} {d : α} (f : α → Option β) (h : l[i]? = some d) : (l.take i).filterMap f ++ (f d).toList = (l.take (i + 1)).filterMap f := by
  rw [List.take_succ, h, List.filterMap_append]
  congr 1
theorem rm_step {β : Type} (f : Nat → β) (i : Nat) : (List.range i).map f ++ [f i] = (List.range (i + 1)).map f := by
  rw [List.range_succ, List.map_append]
  rfl
theorem rf_yes {β : Type} {f : Nat → Option β} {i : Nat} {y : β} (h : f i = some y) : (List.range i).filterMap f ++ [y] = (List.range (i + 1)).filterMap f := by
  rw [List.range_succ, List.filterMap_append, List.filterMap_cons, h]
  rfl
theorem rf_no {β : Type} {f : Nat → Option β} {i : Nat} (h : f i = none) : (List.range i).filterMap f = (List.range (i + 1)).filterMap f := by
  rw [List.range_succ, List.filterMap_append, List.filterMap_cons, h]
  simp
theorem fold_step {α β : Type} {l : List α} {i : Nat} {d : α} (f : β → α → β) (b : β) (h : l[i]? = some d) : f ((l.take i).foldl f b) d = (l.take (i + 1)).foldl f b := by
  rw [List.take_succ, h, List.foldl_append]
  rfl
theorem all_bls {Q : D → Prop} {bs : List Bool} (h : Q (.bl (bs.all id))) : rAllD [.lst (bs.map D.bl)] Q := ⟨bs, rfl, h⟩
end DL

set_option maxRecDepth 100000
set_option maxHeartbeats 4000000
namespace DL
open PySem PySem.Spec PyProof.Rows L2 LamX NdefX DLX

/-! ### the law's own call, where it makes code objects -/
theorem law_endT {Pr : Program} {w : World} {K : PySem.W.Frag} {mg mb : Str → Option Value} {k : Nat} {fa a : Addr} {cs : List (Addr × Addr)} {fd : FuncData} {sp : Sp} {s : Shared} {vs : List Value} {ns : List Int}
    (KX : K.In s.heap) (hns : s.heap.Ns mainGlobals mg) (hb : s.heap.Ns builtinsNs mb) (hbb : ∀ x : Str, x ≠ "__name__" → mb x = bootBuiltins x) (hlim : s.heap.NoLimit) (hg : s.gens = #[])
    (hT : ∀ p ∈ cs, s.heap.get? p.2 = some { cls := .none, data := .fields #[] }) (nT : ∀ p ∈ cs, K.lookup p.2 = none) (C : ∀ p ∈ cs, PySem.W.CodeHd s.heap p.1 p.2)
    (hbm : ∃ (bm : Addr) (ob : Obj), mg "__builtins__" = some (.ref bm) ∧ bm ≠ builtinsNs ∧ s.heap.get? bm = some ob ∧ ob.cls = .type "module" ∧ ob.dict = some builtinsNs ∧ ob.data = .plain)
    (ha : s.heap.get? a = some { cls := .type "list", data := .seq vs.toArray }) (hi : IntsAre vs ns) (hl : ns.length ≤ sizeLine) (hr : Room k callerA)
    (F : ∀ base : Heap, K.In base → base.Ns mainGlobals mg → (∀ p ∈ cs, TabB base mg p.1 p.2) → FnG Pr w K mg base (L2.CX Pr w) k fa fd ["script"] sp) (hbind : ∀ (s : Shared) (u : Value), BindsTo s fd ⟨[u], []⟩ [(("script" : Str), u)])
    (hsp : ∀ H : Hp, (∀ p ∈ cs, H p.2 = some (.tbl #[])) → SqL K H a (ns.map V.int) → sp [.ref a] H (fun v _ => v = .bl true) fun _ _ _ => False) :
    codeAny (model Pr w) callerA (.call (.ref fa) ⟨[.ref a], []⟩) (fun r s' => r = .ok (.ret (.bool true)) ∧ OldK s.heap s'.heap ∧ s'.os = s.os ∧ AllBare s'.gens) s := by
  have rv := vals_ints hi
  obtain ⟨u0, hu0⟩ : ∃ u0 : HO, u0 = .frz { cls := .type "list", data := .seq vs.toArray } (.lst (ns.map V.int)) := ⟨_, rfl⟩
  have isT : ∀ b : Addr, b ∈ cs.map (·.2) → s.heap.get? b = some { cls := .none, data := .fields #[] } := fun b hb => by
    obtain ⟨p, hp, e⟩ := List.mem_map.mp hb
    rw [← e]
    exact hT p hp
  have aT : a ∉ cs.map (·.2) := fun z => by
    have q := isT a z
    rw [ha] at q
    have z' : Data.seq vs.toArray _ = Data.fields #[] := congrArg Obj.data (Option.some.inj q)
    cases z'
  have memT : ∀ p ∈ cs, p.2 ∈ cs.map (·.2) := fun p hp => List.mem_map.mpr ⟨p, hp, rfl⟩
  -- the tables are tracked, and at most the script
  have core : ∀ H : Hp, (∀ b u, H b = some u → (b ∈ cs.map (·.2) ∧ u = .tbl #[]) ∨ (b = a ∧ u = u0 ∧ K.lookup a = none)) → (∀ p ∈ cs, H p.2 = some (.tbl #[])) → SqL K H a (ns.map V.int) → HOk Pr w H s.heap →
      codeAny (model Pr w) callerA (.call (.ref fa) ⟨[.ref a], []⟩) (fun r s' => r = .ok (.ret (.bool true)) ∧ OldK s.heap s'.heap ∧ s'.os = s.os ∧ AllBare s'.gens) s := by
    intro H hH hHT hS hok
    have plain : ∀ {b : Addr} {o : Obj}, s.heap.get? b = some o → (∀ vs n, o.data ≠ .seq vs n) → o.data ≠ .fields #[] → H b = none := fun {b o} e h1 h2 => by
      cases q : H b with
      | none => rfl
      | some u =>
        rcases hH b u q with ⟨hb, _⟩ | ⟨hb, _, _⟩
        · rw [isT b hb] at e
          cases e
          exact (h2 rfl).elim
        · rw [hb, ha] at e
          cases e
          exact (h1 _ _ rfl).elim
    have dict : ∀ {b : Addr} {o : Obj} {es : Array DictEntry} {ep : Nat}, s.heap.get? b = some o → o.data = .dict es ep → H b = none := fun {b o es ep} e d =>
      plain e (fun vs n z => by rw [d] at z; cases z) fun z => by rw [d] at z; cases z
    have ns' : ∀ {b : Addr} {m : Str → Option Value}, s.heap.Ns b m → (hidT s.heap H).Ns b m := fun {b m} ⟨o, es, ep, e, d, r⟩ => ⟨o, es, ep, hidT_get e (dict e d), d, r⟩
    have kin : K.In (hidT s.heap H) := fun b o e => hidT_get (KX b o e) (by
      cases q : H b with
      | none => rfl
      | some u =>
        rcases hH b u q with ⟨hb, _⟩ | ⟨hb, _, n⟩
        · obtain ⟨p, hp, ep⟩ := List.mem_map.mp hb
          rw [← ep, nT p hp] at e
          cases e
        · rw [hb, n] at e
          cases e)
    have M : L2.Mod K mg (hidT s.heap H) := ⟨kin, ns' hns, ⟨mb, ns' hb, hbb⟩, let ⟨mc, h1, h2⟩ := hlim; ⟨mc, ns' h1, h2⟩⟩
    have TB : ∀ p ∈ cs, TabB (hidT s.heap H) mg p.1 p.2 := fun p hp => by
      have hTp := hT p hp
      refine ⟨?_, ?_, fun z => ?_⟩
      · obtain ⟨o, us, file, tf, flags, tg, inF, text, tt, e1, r1, r2, r3, r4, r5, r6, r7, r8, hne⟩ := C p hp
        refine ⟨o, us, file, tf, flags, tg, inF, text, tt, hidT_get e1 (plain e1 (fun vs n z => ?_) fun z => ?_), r1, r2, r3, r4, r5, r6, r7, r8, hne⟩
        · rw [r2] at z
          cases z
        · rw [r2] at z
          cases z
          simp at r3
      · obtain ⟨bm, ob, b1, b2, b3, b4, b5, b6⟩ := hbm
        have nG : bm ≠ mainGlobals := fun q => by
          obtain ⟨o, es, ep, e, hd, _⟩ := hns
          rw [q, e] at b3
          cases b3
          rw [hd] at b6
          cases b6
        have nP : bm ≠ p.2 := fun q => by
          rw [q, hTp] at b3
          cases b3
          cases b6
        refine ⟨bm, ob, b1, b2, nG, nP, hidT_get b3 (plain b3 (fun vs n z => ?_) fun z => ?_), b4, b5, b6⟩
        · rw [b6] at z
          cases z
        · rw [b6] at z
          cases z
      · obtain ⟨o, es, ep, e, hd, _⟩ := hns
        rw [z, hTp] at e
        cases e
        cases hd
    have e0 : Env0 Pr w K mg (hidT s.heap H) callerA [] s H := ⟨rfl, M, fun b o e => of_hidT e, Nat.le_of_eq (hidT_size _ _), trivial, fun b hb => (List.not_mem_nil hb).elim, hok, .of_eq hg⟩
    refine codeAny_mono ((F _ kin (ns' hns) TB).run callerA [] s H ⟨[.ref a], []⟩ [.ref a] [.ref a] _ _ hr rfl e0 (hbind s (.ref a)) (.cons rfl .nil) (hsp H hHT hS)) fun r s' h => ?_
    cases r with
    | error e =>
      obtain ⟨_, _, _, _, _, _, _, _, _, _, _, _, z⟩ := h
      exact z.elim
    | ok fl =>
      cases fl with
      | next => exact False.elim h
      | brk => exact False.elim h
      | cont => exact False.elim h
      | ret u =>
        obtain ⟨v, H', os, bare, un, hok', rv', q⟩ := h
        have q : v = .bl true := q
        subst q
        obtain rfl : u = Value.bool true := rv'
        have key : ∀ b o, b ∉ cs.map (·.2) → s.heap.get? b = some o → s'.heap.get? b = some o := fun b o nb e => by
          cases z : H b with
          | none => exact un.keep b o e z (fun m => List.not_mem_nil m) (fun m => List.not_mem_nil m)
          | some u =>
            rcases hH b u z with ⟨hb, _⟩ | ⟨hb, hu, _⟩
            · exact absurd hb nb
            · subst hb hu
              rw [hu0] at z
              have z2 := un.frzs _ _ _ z
              obtain ⟨e1, _⟩ := hok' _ _ z2
              rw [ha] at e
              cases e
              exact e1
        have grown : ∀ p ∈ cs, ∃ more : Array Value, s'.heap.get? p.2 = some { cls := .none, data := .fields more } := fun p hp => by
          obtain ⟨more, z⟩ := un.tbls p.2 #[] (hHT p hp)
          exact ⟨_, hok' p.2 _ z⟩
        refine ⟨rfl, ⟨fun b o e => ?_, fun b o e => ?_⟩, os, bare⟩
        · by_cases hb : b ∈ cs.map (·.2)
          · obtain ⟨p, hp, ep⟩ := List.mem_map.mp hb
            obtain ⟨more, hm⟩ := grown p hp
            rw [← ep] at e ⊢
            rw [hT p hp] at e
            cases e
            exact .inr (.inl ⟨((C p hp).tab (hT p hp)).isCodeTable, rfl, #[], more, rfl, by rw [Array.empty_append]; exact hm⟩)
          · exact .inl (key b o hb e)
        · by_cases hb : b ∈ cs.map (·.2)
          · obtain ⟨p, hp, ep⟩ := List.mem_map.mp hb
            obtain ⟨more, hm⟩ := grown p hp
            rw [← ep]
            exact ⟨_, hm⟩
          · exact ⟨o, key b o hb e⟩
  have tab_if : ∀ {b : Addr} {u : HO}, (if b ∈ cs.map (·.2) then some (HO.tbl #[]) else none) = some u → b ∈ cs.map (·.2) ∧ u = .tbl #[] := fun {b u} z => by
    by_cases hb : b ∈ cs.map (·.2)
    · rw [if_pos hb] at z
      cases z
      exact ⟨hb, rfl⟩
    · rw [if_neg hb] at z
      cases z
  cases hk : K.lookup a with
  | some o =>
    have e := KX a o hk
    rw [ha] at e
    cases e
    refine core (fun b => if b ∈ cs.map (·.2) then some (.tbl #[]) else none) (fun b u z => .inl (tab_if z)) (fun p hp => if_pos (memT p hp)) (.inr ⟨_, vs.toArray, _, hk, rfl, rfl, rfl, by rw [List.size_toArray, hi.length]; exact hl, by simpa using rv⟩) (fun b u z => ?_)
    obtain ⟨hb, rfl⟩ := tab_if z
    exact isT b hb
  | none =>
    refine core (fun b => if b = a then some u0 else if b ∈ cs.map (·.2) then some (.tbl #[]) else none) (fun b u z => ?_) (fun p hp => (if_neg (show ¬ p.2 = a from fun z => aT (by rw [← z]; exact memT p hp))).trans (if_pos (memT p hp)))
      (.inl (.inr ⟨{ cls := .type "list", data := .seq vs.toArray }, by rw [hu0]; exact if_pos rfl⟩)) (fun b u z => ?_)
    · by_cases hb : b = a
      · have z' := (if_pos hb).symm.trans z
        cases z'
        exact .inr ⟨hb, rfl, hk⟩
      · exact .inl (tab_if ((if_neg hb).symm.trans z))
    · by_cases hb : b = a
      · have z' := (if_pos hb).symm.trans z
        cases z'
        rw [hb, hu0]
        exact ⟨ha, by rw [List.length_map]; exact hl, vs, _, rv, ha⟩
      · obtain ⟨hb, rfl⟩ := tab_if ((if_neg hb).symm.trans z)
        exact isT b hb
theorem walkHT {l : PySem.W.OpenLaw} {n k : Nat} {q : Program} {loose : List Str} {XP : (Str → Option Value) → Heap → Prop} {YP : World → Heap → Prop} {d : DefRec}
    (hn : l.most = some n) (hn2 : n ≤ sizeLine) (hdf : d.params.defaults = []) (hr : Room k callerA)
    (F : ∀ (w : World) (mg : Str → Option Value) (fa : Addr) (h : Heap), YP w h → h.Ns mainGlobals mg → mg d.name = some (.ref fa) →
      ∃ (K : PySem.W.Frag) (cs : List (Addr × Addr)) (fd : FuncData) (sp : Sp), K.In h ∧ (∀ p ∈ cs, h.get? p.2 = some { cls := .none, data := .fields #[] }) ∧ (∀ p ∈ cs, K.lookup p.2 = none) ∧ (∀ p ∈ cs, PySem.W.CodeHd h p.1 p.2) ∧ (∀ (s : Shared) (u : Value), BindsTo s fd ⟨[u], []⟩ [(("script" : Str), u)]) ∧
        (∀ (H : Hp) (a : Addr) (ns : List Int), ns.length ≤ n → (∀ p ∈ cs, H p.2 = some (.tbl #[])) → SqL K H a (ns.map V.int) → sp [.ref a] H (fun v _ => v = .bl true) fun _ _ _ => False) ∧
        ∀ base : Heap, K.In base → base.Ns mainGlobals mg → (∀ p ∈ cs, TabB base mg p.1 p.2) → FnG l.prog w K mg base (L2.CX l.prog w) k fa fd ["script"] sp) : PySem.W.WalkO q loose XP YP l.row.toRowW d [] (fun f vs => PySem.call f vs) := by
  refine Att.attach_callB hn hdf fun w s₀ s₁ mg mb fa o pm cd doc a vs ns G Y _ _ _ hmg hobj hints hlen _ hg => ?_
  obtain ⟨K, cs, fd, sp, KX, hT, nT, C, hb, hsp, hF⟩ := F w mg fa _ Y G.T.g hmg
  exact law_endT KX G.T.g G.T.b G.T.builtins G.T.nolimit hg hT nT C G.T.bmain hobj hints (Nat.le_trans hlen hn2) hr hF hb fun H hH hS => hsp H a ns hlen hH hS
/-! ### the head by one run, tables besides -/
def hookT (as ts : List Addr) (obs : PySem.W.Frag → AlL) (val : AlL) : PySem.W.Hook where
  α := AlL × List (Option Obj)
  obs := fun s => (obs (He.frG s.heap.get? as), ts.map s.heap.get?)
  val := fun _ => (val, ts.map fun _ => some (PySem.W.tabObj #[]))
  says := fun _ h => (∃ K : PySem.W.Frag, K.In h ∧ obs K = val) ∧ ∀ P ∈ ts, h.get? P = some (PySem.W.tabObj #[])
  of := fun _ _ e => ⟨⟨_, He.frG_in, (Prod.mk.inj e).1⟩, List.map_inj_left.mp (Prod.mk.inj e).2⟩
  keeps := fun _ _ _ ⟨⟨K, hK, c⟩, t⟩ k => ⟨⟨K, PySem.W.Frag.In.keeps hK k, c⟩, fun P hP => k _ _ (t P hP)⟩
theorem obT_eq {as ts : List Addr} {obs : PySem.W.Frag → AlL} {val : AlL} (s : PySem.W.SharedT) : (obs (He.frG (HandSHeadRun.getT s) as), ts.map (HandSHeadRun.getT s)) = (hookT as ts obs val).obs s.abs := by
  have e : HandSHeadRun.getT s = s.abs.heap.get? := funext (HandSHeadRun.getT_eq s)
  rw [e]
  rfl
end DL

set_option maxRecDepth 100000
set_option maxHeartbeats 4000000
namespace DL
open PySem PySem.Spec PyProof.Rows L2 LamX NdefX DLX

/-! ### own classes, constants and methods, looked at in the written part -/
def insKB (K : PySem.W.Frag) (C : Addr) : Bool := PySem.W.plainGet K C Str.empty && (PySem.W.hasDictIn K C && (PySem.W.plainOver K C && (He.eqO (PySem.W.findIn K (.ref C) "__setattr__") (some (some (.builtin "object.__setattr__"))) && (He.eqO (PySem.W.findIn K (.ref C) "__class__") (some (some (.builtin "object.__class__"))) &&
  (decide (PySem.W.typeIn K (.ref C) = some (.type "type")) && decide ((PySem.W.clsIn K C).map (·.mro) = some [.ref C, .type "object"]))))))
theorem insKB_ok {K : PySem.W.Frag} {C : Addr} (h : insKB K C = true) : InsK K C := by
  unfold insKB at h
  simp only [Bool.and_eq_true, decide_eq_true_eq] at h
  obtain ⟨h1, h2, h3, h4, h5, h6, h7⟩ := h
  obtain ⟨cd, h8, h9⟩ := Option.map_eq_some_iff.mp h7
  exact ⟨⟨h1, h2, h3, He.eqO_ok h4⟩, He.eqO_ok h5, h6, cd, h8, h9⟩
def mkB (K : PySem.W.Frag) (C f : Addr) : Bool := PySem.W.makesIn K C && (He.eqO (PySem.W.findIn K (.ref C) "__init__") (some (some (.ref f))) && (PySem.W.isFn K (.ref f) && PySem.W.keepIn K (.ref C)))
theorem mkB_ok {K : PySem.W.Frag} {C f : Addr} (h : mkB K C f = true) : Mk K C f := by
  unfold mkB at h
  simp only [Bool.and_eq_true] at h
  obtain ⟨h1, h2, h3, h4⟩ := h
  exact ⟨h1, He.eqO_ok h2, h3, h4⟩
def eqB (K : PySem.W.Frag) (C f : Addr) : Bool := He.eqO (PySem.W.findIn K (.ref C) "__eq__") (some (some (.ref f))) && (PySem.W.isFn K (.ref f) && He.eqO (PySem.W.findIn K (.ref C) "__ne__") (some (some (.builtin "object.__ne__"))))
theorem eqB_ok {K : PySem.W.Frag} {C f : Addr} (h : eqB K C f = true) : PySem.W.findIn K (.ref C) "__eq__" = some (some (.ref f)) ∧ PySem.W.isFn K (.ref f) = true ∧ PySem.W.findIn K (.ref C) "__ne__" = some (some (.builtin "object.__ne__")) := by
  unfold eqB at h
  simp only [Bool.and_eq_true] at h
  obtain ⟨h1, h2, h3⟩ := h
  exact ⟨He.eqO_ok h1, h2, He.eqO_ok h3⟩
def numB (K : PySem.W.Frag) (x : Str) (v : Int) : Bool := match PySem.W.nsIn K mainGlobals x with
  | some (some (.int z _)) => decide (z = v)
  | _ => false
theorem numB_ok {K : PySem.W.Frag} {x : Str} {v : Int} {h : Heap} {mg : Str → Option Value} (KX : K.In h) (G : h.Ns mainGlobals mg) (e : numB K x v = true) : ∃ t, mg x = some (.int v t) := by
  unfold numB at e
  split at e
  · rename_i z t e1
    have e := of_decide_eq_true e
    subst e
    exact ⟨t, PySem.W.mg_of KX G e1⟩
  · cases e
def defQ (x qual : Str) (st : Stmt) (cd : Addr) : FnX := some (x, qual, defArgs st, .stmts (defBody st), defScope st, mainGlobals, [], .none, .ref cd, builtinsNs)
theorem def_okQ {K : PySem.W.Frag} {x qual : Str} {st : Stmt} {f cd : Addr} (h : fnX K f = defQ x qual st cd) (c : PySem.W.codeIn K (.ref cd) qual = true) (k : PySem.W.keepIn K (.ref f) = true) : ∃ fd : FuncData, L2.Fun K x qual st f fd ∧ fd.code = .ref cd := by
  unfold fnX defQ at h
  split at h
  · rename_i oc od fd osl l1
    obtain ⟨a1, a2, a3, a4, a5, a6, a7, a8, a9, a10, a11, a12, a13, a14⟩ := fd
    simp only [Option.some.injEq, Prod.mk.injEq] at h
    obtain ⟨e1, e2, e3, e4, e5, e6, e7, e8, e9, e10⟩ := h
    subst e1 e2 e3 e4 e5 e6 e7 e8 e9 e10
    exact ⟨_, L2.fun_mk l1 c k, rfl⟩
  · cases h
/-- a table of code objects, looked at -/
def tabB (K : PySem.W.Frag) (c P : Addr) : Bool := PySem.W.codeHdIn K c P && (K.lookup P).isNone
theorem tabB_ok {K : PySem.W.Frag} {c P : Addr} (h : tabB K c P = true) : PySem.W.codeHdIn K c P = true ∧ K.lookup P = none := by
  unfold tabB at h
  rw [Bool.and_eq_true] at h
  exact ⟨h.1, Option.isNone_iff_eq_none.mp h.2⟩
theorem at_ {α : Type} {l m : List α} (e : l = m) (i : Nat) {a b : α} (ha : l[i]? = some a) (hb : m[i]? = some b) : a = b := by
  rw [e, hb] at ha
  exact (Option.some.inj ha).symm
end DL

set_option maxRecDepth 100000
set_option maxHeartbeats 4000000
namespace DL
open PySem PySem.Spec PyProof.Rows L2 LamX NdefX DLX
section
variable {X : Cx} {P : Gl0} {g : G} {e : Expr} {es : List Expr} {ta : TD} {tl : TL} {pos p p1 p2 p3 : Pos} {E : Ex} {H0 H : Hp} {ss : SS} {σ : L2.St}
/-! ### [*a, x, *b] -/
def vStar (ta : TD) (tl : TL) : TL := fun ss Q Qx => ta ss (seqOf fun l => tl ss (fun m => Q (l ++ m)) Qx) Qx
theorem a_star (ha : DE X P g e ta) (hr : DA X P g es tl) (hs : starEach (.Starred e p :: es) X.env = (true, eval e X.env) :: starEach es X.env := by rfl) : DA X P g (.Starred e p :: es) (vStar ta tl) :=
  DA.of (StX.pa_star ha.pe hr.pa hs) fun σ H E H0 ss Q Qx S T h => upE.run S T h fun v H' d S' e n q => by
    cases d with
    | lst l =>
      obtain ⟨a, vs, rfl, _, ha, dl⟩ := n.of_lst
      exact ⟨a, vs, rfl, .inr (SqL.of ha), upA.run S' T q fun ws H'' ds S'' e' ns q' => ⟨l ++ ds, S'', e.trans e', (DenL.mv (Mv.ext e' fun a w => Rg.W w) dl).append ns, q'⟩⟩
    | tup l =>
      obtain ⟨a, vs, rfl, _, ha, dl⟩ := n.of_tup
      exact ⟨a, vs, rfl, .inl (SqT.of ha), upA.run S' T q fun ws H'' ds S'' e' ns q' => ⟨l ++ ds, S'', e.trans e', (DenL.mv (Mv.ext e' fun a w => Rg.W w) dl).append ns, q'⟩⟩
    | _ => exact q.elim
/-! ### x[::-1] -/
theorem sliceApplied_rev {A : Around} {prog : Program} {w : World} {E : Value → Shared → Prop} {s : Shared} {sl : Addr} {vl vu vs : Value} {n : Nat} {Q : Int × Int × Nat → Shared → Prop} (hs : s.heap.IsSliceOf sl vl vu vs) (pl : IsPart vl none) (pu : IsPart vu none) (ps : IsPart vs (some (-1)))
    (h : Q (((n : Int) - 1), -1, n) s) : wpAny (model prog w) A (Builtin.Slice.sliceApplied (.ref sl) (pure (n : Int))) Q E s := by
  obtain ⟨os, hos, hcs, hds⟩ := id hs
  unfold Builtin.Slice.sliceApplied Builtin.Slice.sliceFields
  refine wpAny_bind (wpAny_bind (wpAny_field hos hds (x := vl) rfl (wpAny_bind (wpAny_field hos hds (x := vu) rfl (wpAny_bind (wpAny_field hos hds (x := vs) rfl (wpAny_pure ?_)))))))
  refine wpAny_bind (HT.slicePart_ ps ?_)
  show wpAny _ _ (if ((-1 : Int) == 0) = true then _ else _) _ _ s
  rw [if_neg (by decide)]
  refine wpAny_bind (HT.slicePart_ pl (wpAny_bind (HT.slicePart_ pu (wpAny_bind (wpAny_pure ?_)))))
  show wpAny _ _ (pure (((n : Int) - 1), (-1 : Int), Builtin.Slice.slicePlaces ((n : Int) - 1) (-1) (-1))) _ _ s
  have e : Builtin.Slice.slicePlaces ((n : Int) - 1) (-1) (-1) = n := by
    unfold Builtin.Slice.slicePlaces
    rw [if_neg (by decide), show (-(-1 : Int)) = 1 from rfl, Int.ediv_one]
    split <;> omega
  rw [e]
  exact wpAny_pure h
theorem fm_congr {α β : Type} {f h : α → Option β} : ∀ {l : List α}, (∀ x ∈ l, f x = h x) → l.filterMap f = l.filterMap h
  | [], _ => rfl
  | x :: l, k => by rw [List.filterMap_cons, List.filterMap_cons, k x (List.mem_cons_self ..), fm_congr fun y hy => k y (List.mem_cons_of_mem _ hy)]
theorem pick_rev (xs : Array Value) : ((List.range xs.size).filterMap fun (m : Nat) => xs[(((xs.size : Int) - 1) + (m : Int) * (-1)).toNat]?).toArray = xs.toList.reverse.toArray := by
  have e : ((List.range xs.size).filterMap fun (m : Nat) => xs[(((xs.size : Int) - 1) + (m : Int) * (-1)).toNat]?) = ((List.range xs.size).map fun k => xs.size - 1 - k).filterMap (xs[·]?) := by
    rw [List.filterMap_map]
    refine fm_congr fun m hm => ?_
    have hm := List.mem_range.mp hm
    show xs[(((xs.size : Int) - 1) + (m : Int) * (-1)).toNat]? = xs[xs.size - 1 - m]?
    rw [show (((xs.size : Int) - 1) + (m : Int) * (-1)).toNat = xs.size - 1 - m by omega]
  rw [e, PySem.W.krv_range, List.filterMap_reverse, PySem.W.krv_all]
theorem getItem_tuple_rev {A : Around} {prog : Program} {w : World} {E : Value → Shared → Prop} {s : Shared} {t sl : Addr} {items : Array Value} {vl vu vs : Value} {Q : Value → Shared → Prop} (ht : IsTup s.heap t items) (hs : s.heap.IsSliceOf sl vl vu vs) (pl : IsPart vl none) (pu : IsPart vu none) (ps : IsPart vs (some (-1)))
    (h : Q (.ref s.heap.objs.size) { s with heap := s.heap.push { cls := .type "tuple", data := .seq items.toList.reverse.toArray } }) (hsz : items.size ≤ sizeLine) : wpAny (model prog w) A (getItem (.ref t) (.ref sl)) Q E s := by
  have htake : sizeOk (.seq items.toList.reverse.toArray) := by
    show items.toList.reverse.toArray.size ≤ sizeLine
    rw [List.size_toArray, List.length_reverse, Array.length_toList]
    exact hsz
  obtain ⟨os, hos, hcs, hds⟩ := id hs
  have hTs : s.TypeIs (.ref sl) "slice" := ⟨os, hos, hcs⟩
  unfold getItem
  try with_reducible refine wpAny_holding ?_
  first | refine wpAny_bind (wpAny_pure ?_) | skip
  refine wpAny_bind (wpAny_sequenceKey ht.typeIs (by decide) ?_)
  refine wpAny_bind (wpAny_callSpecial?_slot (name := Str.ofString "__getitem__") ht.typeIs PyProof.Rows.slot_tuple_getitem
    (wpAny_call_entry PyProof.Rows.slot_tuple_getitem ht.typeIs entry_tuple_getitem ?_ (args_tuple_getitem _ _)))
  show wpAny _ _ (Builtin.Tuple.tupleItemsOf (.ref t) >>= _) _ _ s
  refine wpAny_bind (tupleItemsOf_ ht ?_)
  refine wpAny_bind (wpAny_typeOf hTs ?_)
  rw [if_pos (by decide)]
  refine wpAny_bind (sliceApplied_rev hs pl pu ps ?_)
  show wpAny _ _ (if (((items.size : Int) - 1) == 0 && (-1 : Int) == 1 && items.size == items.size) = true then _ else _) _ _ s
  rw [if_neg (by rw [show ((-1 : Int) == 1) = false from rfl, Bool.and_false, Bool.false_and]; exact Bool.false_ne_true), pick_rev]
  first
    | exact wpAny_bind (m := Builtin.Tuple.tupleExact _) (wpAny_newObj_type (wpAny_pure ⟨_, rfl, wpAny_pure h⟩) htake)
    | exact wpAny_bind (m := Builtin.Tuple.tupleExact _) (wpAny_newObj_type (wpAny_bind (wpAny_pure (wpAny_pure ⟨_, rfl, wpAny_pure h⟩))) htake)
    | exact wpAny_bind (wpAny_bind (m := Builtin.Tuple.tupleExact _) (wpAny_newObj_type (wpAny_pure (wpAny_pure ⟨_, rfl, wpAny_pure h⟩)) htake))
    | exact wpAny_bind (wpAny_bind (m := Builtin.Tuple.tupleExact _) (wpAny_newObj_type (wpAny_pure ⟨_, rfl, wpAny_pure h⟩) htake))
/-- of a list or a tuple -/
def tRevA (K : PySem.W.Frag) (te : TE) : TE := fun σ H Q => te σ H fun x H1 => ∃ a xs, x = .ref a ∧ ((SqL K H1 a xs ∧ ∀ p, H1 p = none → Q (.ref p) (upd H1 p (.lst xs.reverse))) ∨ (SqT K H1 a xs ∧ ∀ p, H1 p = none → Q (.ref p) (upd H1 p (.tup xs.reverse))))
theorem pe_revA {te : TE} {k : Nat} (he : PE X e te) : PE X (.Subscript e (.Slice none none (some (.UnaryOp .USub (.Constant (.int 1) k p1) p2)) p3) pos) (tRevA X.K te) := by
  refine ⟨fun pins s σ H Q I h => ?_⟩
  refine Subscript_ (thn (he.run pins s σ H _ I h) fun v s1 ⟨x, H1, I1, r1, q1⟩ => ?_)
  obtain ⟨a, xs, ex, q⟩ := q1
  subst ex
  cases r1
  have hst : PO X (some (.UnaryOp .USub (.Constant (.int 1) k p1) p2)) (tPart (tUn (rU fun i => .int (-i)) (tC (.int 1)))) := po_some (pe_un un_neg pe_int)
  refine wpAny_Slice (thn (po_none.run pins s1 σ H1 (fun o H2 => o = none ∧ H2 = H1) I1 ⟨rfl, rfl⟩) fun vl s2 ⟨l, H2, I2, pl, el, e2⟩ => ?_)
  subst el e2
  refine thn (po_none.run pins s2 σ H2 (fun o H3 => o = none ∧ H3 = H2) I2 ⟨rfl, rfl⟩) fun vu s3 ⟨u, H3, I3, pu, eu, e3⟩ => ?_
  subst eu e3
  refine thn (hst.run pins s3 σ H3 (fun o H4 => o = some (-1) ∧ H4 = H3) I3 ⟨1, rfl, -1, rfl, rfl, rfl⟩) fun vs s4 ⟨o, H4, I4, ps, eo, e4⟩ => ?_
  subst eo e4
  have I5 : Inv X pins σ H4 { s4 with heap := s4.heap.push { cls := .type "slice", data := .fields #[vl, vu, vs] } } := I4.kept (t' := s4.toks) fun b ob q => Heap.get?_push_of_some _ q
  show wpAny (model X.prog X.w) X.A (subscriptTail e (.Slice none none (some (.UnaryOp .USub (.Constant (.int 1) k p1) p2)) p3) (.ref a) (.ref s4.heap.objs.size)) (EP X pins σ Q) X.xe { s4 with heap := s4.heap.push { cls := .type "slice", data := .fields #[vl, vu, vs] } }
  rcases q with ⟨hx, q⟩ | ⟨hx, q⟩
  · obtain ⟨its, r, ht, hz⟩ := I5.list hx
    have hlen := r.length
    refine tail_any (ops := [.ref a, .ref s4.heap.objs.size]) ht.isList.typeIs (PySem.slot_list_getitem.lookup) ?_ (by with_unfolding_all rfl)
    refine wpAny_getItem_list_slice ht.isList (Heap.IsSliceOf.new _ vl vu vs) pl pu ps (by decide) ?_ (by rw [List.size_toArray]; omega)
    rw [PySem.W.krv_pick]
    refine ⟨.ref _, _, I5.laid (t' := s4.toks) (o := .lst xs.reverse) (fun b ob q => Heap.get?_push_of_some _ q) (Nat.le_refl _) ?_, rfl, q _ (I5.hok.fresh (Nat.le_refl _))⟩
    exact ⟨by rw [List.length_reverse]; exact hz, _, 0, r.reverse, Heap.get?_push_size _ rfl⟩
  · obtain ⟨its, r, ht, hz⟩ := I5.tuple hx
    have hlen := r.length
    refine tail_any (ops := [.ref a, .ref s4.heap.objs.size]) ht.typeIs (PyProof.Rows.slot_tuple_getitem.lookup) ?_ (by with_unfolding_all rfl)
    refine getItem_tuple_rev ht (Heap.IsSliceOf.new _ vl vu vs) pl pu ps ?_ (by rw [List.size_toArray]; omega)
    refine ⟨.ref _, _, I5.laid (t' := s4.toks) (o := .tup xs.reverse) (fun b ob q => Heap.get?_push_of_some _ q) (Nat.le_refl _) ?_, rfl, q _ (I5.hok.fresh (Nat.le_refl _))⟩
    exact ⟨by rw [List.length_reverse]; exact hz, _, r.reverse, IsTup.new _ _⟩
theorem DenL.rev {R : Addr → Prop} : ∀ {l : List D} {vs : List V}, DenL P g R H vs l → DenL P g R H vs.reverse l.reverse
  | [], _, h => by
    cases h
    exact .nil
  | d :: l, _, h => by
    cases h with
    | cons h t =>
      rw [List.reverse_cons, List.reverse_cons]
      exact (DenL.rev t).append (.cons h .nil)
def rRev : D → (D → Prop) → Prop
  | .lst l, Q => Q (.lst l.reverse)
  | .tup l, Q => Q (.tup l.reverse)
  | _, _ => False
def vRev (ta : TD) : TD := fun ss Q Qx => ta ss (fun d => rRev d Q) Qx
theorem d_rev {k : Nat} (he : DE X P g e ta) : DE X P g (.Subscript e (.Slice none none (some (.UnaryOp .USub (.Constant (.int 1) k p1) p2)) p3) pos) (vRev ta) :=
  DE.of (pe_revA he.pe) fun σ H E H0 ss Q Qx S T h => upE.run S T h fun v H' d S' e n q => by
    cases d with
    | lst l =>
      obtain ⟨a, vs, rfl, _, ha, dl⟩ := n.of_lst
      exact ⟨a, vs, rfl, .inl ⟨SqL.of ha, fun p hp => EPD.back e (.lst S' hp dl.rev q)⟩⟩
    | tup l =>
      obtain ⟨a, vs, rfl, _, ha, dl⟩ := n.of_tup
      exact ⟨a, vs, rfl, .inr ⟨SqT.of ha, fun p hp => EPD.back e (.tup S' hp dl.rev q)⟩⟩
    | _ => exact q.elim
end
end DL

set_option maxRecDepth 100000
set_option maxHeartbeats 4000000
namespace ZS
open PySem
open PySem.Sem (wp)
/-! ### zip of two sequences, each a list (true) or a tuple (false) -/
def Ir (b : Bool) (h : Heap) (it l : Addr) (i : Nat) : Prop := match b with
  | true => h.IsListIter it l i
  | false => h.IsTupleIter it l i
def Ob (b : Bool) (h : Heap) (l : Addr) (items : Array Value) : Prop := match b with
  | true => h.IsList l items
  | false => h.IsTuple l items
section
variable {prog : Program} {w : World} {A : Around} {E : Value → Shared → Prop} {s : Shared} {b c : Bool} {h h' : Heap} {it l a : Addr} {i : Nat} {items : Array Value}
theorem Ir.ext (x : Ir b h it l i) (e : Heap.ExtBut a h h') (n : it ≠ a) : Ir b h' it l i := by
  cases b
  · exact Heap.IsTupleIter.extBut x e n
  · exact Heap.IsListIter.extBut x e n
theorem Ir.at (x : Ir b h it l i) (e : ∀ o, h.get? it = some o → h'.get? it = some o) : Ir b h' it l i := by
  cases b
  · exact Heap.IsTupleIter.at x e
  · exact Heap.IsListIter.at x e
theorem Ir.lt (x : Ir b h it l i) : it < h.objs.size := by
  cases b
  · obtain ⟨_, e, _⟩ := x
    exact Heap.lt_size e
  · obtain ⟨_, e, _⟩ := x
    exact Heap.lt_size e
theorem Ir.fields (x : Ir b h it l i) : ∃ o, h.get? it = some o ∧ ∀ v, o.data ≠ .cell v := by
  cases b
  · obtain ⟨o, e, _, d⟩ := x
    exact ⟨o, e, fun v q => by rw [d] at q; cases q⟩
  · obtain ⟨o, e, _, d⟩ := x
    exact ⟨o, e, fun v q => by rw [d] at q; cases q⟩
theorem Ob.ext (x : Ob b h l items) (e : Heap.ExtBut a h h') (n : l ≠ a) : Ob b h' l items := by
  cases b
  · exact Heap.IsTuple.extBut x e n
  · exact Heap.IsList.extBut x e n
theorem next_item {x : Value} {Q : Value → Shared → Prop} (hit : Ir b s.heap it l i) (hl : Ob b s.heap l items) (hx : items[i]? = some x)
    (hQ : ∀ h', Ir b h' it l (i + 1) → Heap.SameBut it s.heap h' → Q x { s with heap := h' }) : wpAny (model prog w) A (Builtin.SmallTypes.nextOf (.ref it)) Q E s := by
  cases b
  · exact RZ.nextOf_tuple_item hit hl hx hQ
  · exact wpAny_nextOf_list_item hit hl hx hQ
theorem next_end {Q : Value → Shared → Prop} (hh : A.handled = none) (hit : Ir b s.heap it l i) (hl : Ob b s.heap l items) (hx : items[i]? = none)
    (hE : ∀ h' e, Heap.ExtBut it s.heap h' → (∃ o, h'.get? e = some o ∧ o.cls = .type "StopIteration") → E (.ref e) { s with heap := h' }) : wpAny (model prog w) A (Builtin.SmallTypes.nextOf (.ref it)) Q E s := by
  cases b
  · exact RZ.nextOf_tuple_end hh hit hl hx hE
  · exact wpAny_nextOf_list_end hh hit hl hx hE
theorem sym {a b : Addr} (h : a ≠ b) : b ≠ a := fun e => h e.symm
/-- one turn of zip -/
theorem zip_item {z TI TO i1 i2 l1 l2 : Addr} {k1 k2 : Nat} {xs ys : Array Value} {x y u v : Value} {Q : Value → Shared → Prop} (D : ZipApart z TI TO i1 i2 l1 l2)
    (hz : IsZip s.heap z TI TO .none) (hTI : IsPair s.heap TI (.ref i1) (.ref i2)) (hTO : IsPair s.heap TO u v) (h1 : Ir b s.heap i1 l1 k1) (h2 : Ir c s.heap i2 l2 k2) (o1 : Ob b s.heap l1 xs) (o2 : Ob c s.heap l2 ys) (hx : xs[k1]? = some x) (hy : ys[k2]? = some y)
    (hQ : ∀ h', IsZip h' z TI TO (rawInt s.heap.objs.size) → IsPair h' TO x y → Ir b h' i1 l1 (k1 + 1) → Ir c h' i2 l2 (k2 + 1) → IsPair h' s.heap.objs.size x y → h'.objs.size = s.heap.objs.size + 1 →
      (∀ q o, q ≠ z → q ≠ TO → q ≠ i1 → q ≠ i2 → s.heap.get? q = some o → h'.get? q = some o) → Q (.ref s.heap.objs.size) { s with heap := h' }) :
    wpAny (model prog w) A (Builtin.«zip.__next__» ⟨[.ref z], []⟩) (fun fin s' => ∃ v, fin = .done (.ret v) ∧ Q v s') E s := by
  show wpAny _ _ (field (.ref z) 2 >>= _) _ _ _
  refine wpAny_bind (wpAny_field hz rfl (x := .bool false) rfl ?_)
  show wpAny _ _ (field (.ref z) 3 >>= _) _ _ _
  refine wpAny_bind (wpAny_field hz rfl (x := .ref TI) rfl (wpAny_bind (wpAny_seqItems hTI rfl ?_)))
  show wpAny _ _ (Builtin.SmallTypes.ownedTupleIsFree (.ref z) >>= _) _ _ _
  unfold Builtin.SmallTypes.ownedTupleIsFree
  refine wpAny_bind (wpAny_bind (wpAny_field hz rfl (x := .none) rfl (wpAny_pure ?_)))
  simp only [if_true]
  refine wpAny_bind (wpAny_rule (wpAny_bind (wpAny_field hz rfl (x := .ref TO) rfl (wpAny_bind (wpAny_setField_rec hz (by simp) fun g1 z1 s1 => ?_)))))
  replace z1 : IsZip g1 z TI TO .ellipsis := z1
  refine wpAny_bind ?_
  simp only [List.zipIdx_cons, List.zipIdx_nil, List.forIn_cons, List.forIn_nil]
  refine wpAny_bind (wpAny_bind (wpAny_onRaise ?_))
  show wpAny _ _ (Builtin.SmallTypes.nextOf (.ref i1) >>= _) _ _ _
  refine wpAny_bind (next_item (h1.ext s1.extBut D.i1z) (o1.ext s1.extBut D.l1z) hx fun g2 n1 s2 => wpAny_pure ?_)
  have t2 : IsPair g2 TO u v := s2.extBut _ _ D.TOi1 (s1.extBut _ _ D.TOz hTO)
  refine wpAny_bind (wpAny_seqItems t2 rfl (wpAny_bind (wpAny_updateSeq_pair t2 fun g3 t3 s3 => ?_)))
  replace t3 : IsPair g3 TO x v := t3
  refine wpAny_bind (wpAny_letGo (wpAny_pure (wpAny_bind (wpAny_bind (wpAny_onRaise ?_)))))
  show wpAny _ _ (Builtin.SmallTypes.nextOf (.ref i2) >>= _) _ _ _
  refine wpAny_bind (next_item (((h2.ext s1.extBut D.i2z).ext s2.extBut (sym D.i12)).ext s3.extBut (sym D.TOi2)) (((o2.ext s1.extBut D.l2z).ext s2.extBut D.l2i1).ext s3.extBut D.l2TO) hy fun g4 n2 s4 => wpAny_pure ?_)
  have t4 : IsPair g4 TO x v := s4.extBut _ _ D.TOi2 t3
  refine wpAny_bind (wpAny_seqItems t4 rfl (wpAny_bind (wpAny_updateSeq_pair t4 fun g5 t5 s5 => ?_)))
  replace t5 : IsPair g5 TO x y := t5
  refine wpAny_bind (wpAny_letGo (wpAny_pure (wpAny_pure (wpAny_bind (wpAny_seqItems t5 rfl (wpAny_bind (wpAny_newTuple ?_)))))))
  have size : g5.objs.size = s.heap.objs.size := by rw [s5.1, s4.1, s3.1, s2.1, s1.1]
  have z5 : IsZip g5 z TI TO .ellipsis := s5.extBut _ _ (sym D.TOz) (s4.extBut _ _ (sym D.i2z) (s3.extBut _ _ (sym D.TOz) (s2.extBut _ _ (sym D.i1z) z1)))
  have k5 : ∀ q o, q ≠ z → q ≠ TO → q ≠ i1 → q ≠ i2 → s.heap.get? q = some o → g5.get? q = some o := fun q o q1 q2 q3 q4 e => s5.extBut _ _ q2 (s4.extBut _ _ q4 (s3.extBut _ _ q2 (s2.extBut _ _ q3 (s1.extBut _ _ q1 e))))
  have m1 : Ir b g5 i1 l1 (k1 + 1) := ((n1.ext s3.extBut (sym D.TOi1)).ext s4.extBut D.i12).ext s5.extBut (sym D.TOi1)
  have m2 : Ir c g5 i2 l2 (k2 + 1) := n2.ext s5.extBut (sym D.TOi2)
  have zl : z < g5.objs.size := Heap.lt_size z5
  show wpAny _ _ (Builtin.SmallTypes.ownedTupleHandOut (.ref z) (.ref g5.objs.size) >>= _) _ _ _
  unfold Builtin.SmallTypes.ownedTupleHandOut
  have z6 : IsZip (g5.push { cls := .type "tuple", data := .seq #[x, y] }) z TI TO .ellipsis := Heap.get?_push_of_some _ z5
  refine wpAny_bind (wpAny_bind (wpAny_setField_rec z6 (by simp) fun g7 z7 s7 => ?_))
  replace z7 : IsZip g7 z TI TO (rawInt g5.objs.size) := z7
  refine wpAny_setField_rec z7 (by simp) fun g8 z8 s8 => ?_
  replace z8 : IsZip g8 z TI TO (rawInt g5.objs.size) := z8
  have up : ∀ q o, q ≠ z → g5.get? q = some o → g8.get? q = some o := fun q o q1 e => s8.extBut _ _ q1 (s7.extBut _ _ q1 (Heap.get?_push_of_some _ e))
  have t8 : IsPair g8 g5.objs.size x y := s8.extBut _ _ (Nat.ne_of_gt zl) (s7.extBut _ _ (Nat.ne_of_gt zl) (Heap.get?_push_size _ rfl))
  have e8 : g8.objs.size = g5.objs.size + 1 := by rw [s8.1, s7.1, Heap.size_push]
  rw [size] at z8 t8 e8
  refine wpAny_pure ⟨_, rfl, ?_⟩
  show Q (.ref g5.objs.size) _
  rw [size]
  exact hQ g8 z8 (up _ _ D.TOz t5) (m1.at fun o e => up _ o D.i1z e) (m2.at fun o e => up _ o D.i2z e) t8 e8 fun q o q1 q2 q3 q4 e => up q o q1 (k5 q o q1 q2 q3 q4 e)
/-- .. and its end -/
theorem zip_end {z TI TO i1 i2 l1 l2 : Addr} {k1 k2 : Nat} {xs ys : Array Value} {u v : Value} {Q : Fin → Shared → Prop} (hh : A.handled = none) (D : ZipApart z TI TO i1 i2 l1 l2)
    (hz : IsZip s.heap z TI TO .none) (hTI : IsPair s.heap TI (.ref i1) (.ref i2)) (hTO : IsPair s.heap TO u v) (h1 : Ir b s.heap i1 l1 k1) (h2 : Ir c s.heap i2 l2 k2) (o1 : Ob b s.heap l1 xs) (o2 : Ob c s.heap l2 ys) (hend : xs[k1]? = none ∨ ys[k2]? = none)
    (hE : ∀ h' e, (∀ q o, q ≠ z → q ≠ TO → q ≠ i1 → q ≠ i2 → s.heap.get? q = some o → h'.get? q = some o) → (∃ o, h'.get? e = some o ∧ o.cls = .type "StopIteration") → E (.ref e) { s with heap := h' }) :
    wpAny (model prog w) A (Builtin.«zip.__next__» ⟨[.ref z], []⟩) Q E s := by
  show wpAny _ _ (field (.ref z) 2 >>= _) _ _ _
  refine wpAny_bind (wpAny_field hz rfl (x := .bool false) rfl ?_)
  show wpAny _ _ (field (.ref z) 3 >>= _) _ _ _
  refine wpAny_bind (wpAny_field hz rfl (x := .ref TI) rfl (wpAny_bind (wpAny_seqItems hTI rfl ?_)))
  show wpAny _ _ (Builtin.SmallTypes.ownedTupleIsFree (.ref z) >>= _) _ _ _
  unfold Builtin.SmallTypes.ownedTupleIsFree
  refine wpAny_bind (wpAny_bind (wpAny_field hz rfl (x := .none) rfl (wpAny_pure ?_)))
  simp only [if_true]
  refine wpAny_bind (wpAny_rule (wpAny_bind (wpAny_field hz rfl (x := .ref TO) rfl (wpAny_bind (wpAny_setField_rec hz (by simp) fun g1 z1 s1 => ?_)))))
  replace z1 : IsZip g1 z TI TO .ellipsis := z1
  refine wpAny_bind ?_
  simp only [List.zipIdx_cons, List.zipIdx_nil, List.forIn_cons, List.forIn_nil]
  refine wpAny_bind (wpAny_bind (wpAny_onRaise ?_))
  show wpAny _ _ (Builtin.SmallTypes.nextOf (.ref i1) >>= _) _ _ _
  have stop : ∀ {g : Heap} {e : Addr}, IsZip g z TI TO .ellipsis → (∃ o, g.get? e = some o ∧ o.cls = .type "StopIteration") → e ≠ z := fun hg ⟨o, h1, h2⟩ q => by
    subst q
    rw [hg] at h1
    cases h1
    simp at h2
  cases hx : xs[k1]? with
  | none =>
    refine wpAny_bind (next_end hh (h1.ext s1.extBut D.i1z) (o1.ext s1.extBut D.l1z) hx fun g2 e s2 he => ?_)
    have z2 : IsZip g2 z TI TO .ellipsis := s2 _ _ (sym D.i1z) z1
    have ne := stop z2 he
    obtain ⟨oe, e1, e2⟩ := he
    exact wpAny_setField_rec z2 (by simp) fun g3 _ s3 => hE g3 e (fun q o q1 _ q3 _ x => s3.extBut _ _ q1 (s2 _ _ q3 (s1.extBut _ _ q1 x))) ⟨oe, s3.extBut _ _ ne e1, e2⟩
  | some x =>
    have hy : ys[k2]? = none := by
      rcases hend with h | h
      · rw [hx] at h
        cases h
      · exact h
    refine wpAny_bind (next_item (h1.ext s1.extBut D.i1z) (o1.ext s1.extBut D.l1z) hx fun g2 n1 s2 => wpAny_pure ?_)
    have t2 : IsPair g2 TO u v := s2.extBut _ _ D.TOi1 (s1.extBut _ _ D.TOz hTO)
    refine wpAny_bind (wpAny_seqItems t2 rfl (wpAny_bind (wpAny_updateSeq_pair t2 fun g3 t3 s3 => ?_)))
    refine wpAny_bind (wpAny_letGo (wpAny_pure (wpAny_bind (wpAny_bind (wpAny_onRaise ?_)))))
    show wpAny _ _ (Builtin.SmallTypes.nextOf (.ref i2) >>= _) _ _ _
    refine wpAny_bind (next_end hh (((h2.ext s1.extBut D.i2z).ext s2.extBut (sym D.i12)).ext s3.extBut (sym D.TOi2)) (((o2.ext s1.extBut D.l2z).ext s2.extBut D.l2i1).ext s3.extBut D.l2TO) hy fun g4 e s4 he => ?_)
    have z4 : IsZip g4 z TI TO .ellipsis := s4 _ _ (sym D.i2z) (s3.extBut _ _ (sym D.TOz) (s2.extBut _ _ (sym D.i1z) z1))
    have ne := stop z4 he
    obtain ⟨oe, e1, e2⟩ := he
    exact wpAny_setField_rec z4 (by simp) fun g5 _ s5 => hE g5 e (fun q o q1 q2 q3 q4 x => s5.extBut _ _ q1 (s4 _ _ q4 (s3.extBut _ _ q2 (s2.extBut _ _ q3 (s1.extBut _ _ q1 x))))) ⟨oe, s5.extBut _ _ ne e1, e2⟩
end
end ZS

set_option maxRecDepth 100000
set_option maxHeartbeats 4000000
namespace ZS
open PySem PySem.Spec PyProof.Rows L2
section
variable {prog : Program} {w : World} {A : Around} {E : Value → Shared → Prop} {s : Shared} {b c : Bool} {h h' : Heap} {it l a : Addr} {i : Nat} {items : Array Value}
theorem pyNext_item {z TI TO i1 i2 l1 l2 : Addr} {k1 k2 : Nat} {xs ys : Array Value} {x y u v : Value} {Q : Option Value → Shared → Prop} (D : ZipApart z TI TO i1 i2 l1 l2)
    (hz : IsZip s.heap z TI TO .none) (hTI : IsPair s.heap TI (.ref i1) (.ref i2)) (hTO : IsPair s.heap TO u v) (h1 : Ir b s.heap i1 l1 k1) (h2 : Ir c s.heap i2 l2 k2) (o1 : Ob b s.heap l1 xs) (o2 : Ob c s.heap l2 ys) (hx : xs[k1]? = some x) (hy : ys[k2]? = some y)
    (hQ : ∀ h', IsZip h' z TI TO (rawInt s.heap.objs.size) → IsPair h' TO x y → Ir b h' i1 l1 (k1 + 1) → Ir c h' i2 l2 (k2 + 1) → IsPair h' s.heap.objs.size x y → h'.objs.size = s.heap.objs.size + 1 →
      (∀ q o, q ≠ z → q ≠ TO → q ≠ i1 → q ≠ i2 → s.heap.get? q = some o → h'.get? q = some o) → Q (some (.ref s.heap.objs.size)) { s with heap := h' }) : wpAny (model prog w) A (pyNext (.ref z)) Q E s := by
  have hT : s.TypeIs (.ref z) "zip" := ⟨_, hz, rfl⟩
  unfold pyNext
  exact wpAny_bind (wpAny_attempt (wpAny_callSpecial?_slot (name := Str.ofString "__next__") hT PySem.F.slot_zip_next
    (wpAny_call_entry PySem.F.slot_zip_next hT PySem.F.entry_zip_next (zip_item D hz hTI hTO h1 h2 o1 o2 hx hy fun h' a1 a2 a3 a4 a5 a6 a7 => wpAny_pure (hQ h' a1 a2 a3 a4 a5 a6 a7)) (PySem.F.args_zip_next_1 _))))
theorem pyNext_end {z TI TO i1 i2 l1 l2 : Addr} {k1 k2 : Nat} {xs ys : Array Value} {u v : Value} {Q : Option Value → Shared → Prop} (hh : A.handled = none) (D : ZipApart z TI TO i1 i2 l1 l2)
    (hz : IsZip s.heap z TI TO .none) (hTI : IsPair s.heap TI (.ref i1) (.ref i2)) (hTO : IsPair s.heap TO u v) (h1 : Ir b s.heap i1 l1 k1) (h2 : Ir c s.heap i2 l2 k2) (o1 : Ob b s.heap l1 xs) (o2 : Ob c s.heap l2 ys) (hend : xs[k1]? = none ∨ ys[k2]? = none)
    (hQ : ∀ h', (∀ q o, q ≠ z → q ≠ TO → q ≠ i1 → q ≠ i2 → s.heap.get? q = some o → h'.get? q = some o) → Q none { s with heap := h' }) : wpAny (model prog w) A (pyNext (.ref z)) Q E s := by
  have hT : s.TypeIs (.ref z) "zip" := ⟨_, hz, rfl⟩
  unfold pyNext
  refine wpAny_bind (wpAny_attempt (wpAny_callSpecial?_slot (name := Str.ofString "__next__") hT PySem.F.slot_zip_next
    (wpAny_call_entry PySem.F.slot_zip_next hT PySem.F.entry_zip_next (zip_end hh D hz hTI hTO h1 h2 o1 o2 hend fun h' e hk he => ?_) (PySem.F.args_zip_next_1 _))))
  obtain ⟨o, ho, hc⟩ := he
  exact wpAny_bind (wpAny_isInstance (T := "StopIteration") (b := true) ⟨o, ho, hc⟩ isSubtype_stop (wpAny_pure (hQ _ hk)))
/-- zip(x, y), made -/
def itO (b : Bool) (l : Addr) : Obj := match b with
  | true => { cls := .type "list_iterator", data := .fields #[.ref l, .int 0 0] }
  | false => { cls := .type "tuple_iterator", data := .fields #[.ref l, .int 0 0] }
abbrev zh1 (b : Bool) (h : Heap) (l1 : Addr) : Heap := h.push (itO b l1)
abbrev zh2 (b c : Bool) (h : Heap) (l1 l2 : Addr) : Heap := (zh1 b h l1).push (itO c l2)
abbrev zh3 (b c : Bool) (h : Heap) (l1 l2 : Addr) : Heap := (zh2 b c h l1 l2).push { cls := .type "tuple", data := .seq #[.ref h.objs.size, .ref (zh1 b h l1).objs.size] }
abbrev zh4 (b c : Bool) (h : Heap) (l1 l2 : Addr) : Heap := (zh3 b c h l1 l2).push { cls := .type "tuple", data := .seq #[.none, .none] }
abbrev zh5 (b c : Bool) (h : Heap) (l1 l2 : Addr) : Heap := (zh4 b c h l1 l2).push { cls := .type "zip", data := .fields #[.none, .bool false, .bool false, .ref (zh2 b c h l1 l2).objs.size, .ref (zh3 b c h l1 l2).objs.size] }
theorem meets_new (b c : Bool) (l1 l2 : Addr) (xs ys : Array Value) :
    Meets (Builtin.«zip.__new__» ⟨[.type "zip", .ref l1, .ref l2], []⟩) (fun _ R s => Ob b s.heap l1 xs ∧ Ob c s.heap l2 ys ∧ R (.ok (.ret (.ref (zh4 b c s.heap l1 l2).objs.size))) { s with heap := zh5 b c s.heap l1 l2 }) :=
  .of_wp fun prog w A R s h => by
    obtain ⟨hp, g, d, tk, os⟩ := s
    obtain ⟨hl1, hl2, h⟩ := h
    have hsub := sub_zip
    cases b <;> cases c
    · have a1 : Heap.IsTuple (Shared.heap ⟨hp, g, d, tk, os⟩) l1 xs := hl1
      have a2 : Heap.IsTuple (Shared.heap ⟨hp.push { cls := .type "tuple_iterator", data := .fields #[.ref l1, .int 0 0] }, g, d, tk, os⟩) l2 ys := Heap.IsTuple.push hl2 _
      wp_walk using wpAny_pyIter_tuple a1, wpAny_pyIter_tuple a2
      exact ⟨_, rfl, h⟩
    · have a1 : Heap.IsTuple (Shared.heap ⟨hp, g, d, tk, os⟩) l1 xs := hl1
      have a2 : Heap.IsList (Shared.heap ⟨hp.push { cls := .type "tuple_iterator", data := .fields #[.ref l1, .int 0 0] }, g, d, tk, os⟩) l2 ys := Heap.IsList.push hl2 _
      wp_walk using wpAny_pyIter_tuple a1, wpAny_pyIter_list a2
      exact ⟨_, rfl, h⟩
    · have a1 : Heap.IsList (Shared.heap ⟨hp, g, d, tk, os⟩) l1 xs := hl1
      have a2 : Heap.IsTuple (Shared.heap ⟨hp.push { cls := .type "list_iterator", data := .fields #[.ref l1, .int 0 0] }, g, d, tk, os⟩) l2 ys := Heap.IsTuple.push hl2 _
      wp_walk using wpAny_pyIter_list a1, wpAny_pyIter_tuple a2
      exact ⟨_, rfl, h⟩
    · have a1 : Heap.IsList (Shared.heap ⟨hp, g, d, tk, os⟩) l1 xs := hl1
      have a2 : Heap.IsList (Shared.heap ⟨hp.push { cls := .type "list_iterator", data := .fields #[.ref l1, .int 0 0] }, g, d, tk, os⟩) l2 ys := Heap.IsList.push hl2 _
      wp_walk using wpAny_pyIter_list a1, wpAny_pyIter_list a2
      exact ⟨_, rfl, h⟩
theorem Ir.new {b : Bool} {h : Heap} {it l : Addr} (e : h.get? it = some (itO b l)) : Ir b h it l 0 := by
  cases b
  · exact ⟨_, e, rfl, rfl⟩
  · exact ⟨_, e, rfl, rfl⟩
theorem itO_free (b : Bool) (l : Addr) : (itO b l).isFreed = false := by
  cases b <;> rfl
theorem call_new {l1 l2 : Addr} {xs ys : Array Value} {Q : Value → Shared → Prop} (o1 : Ob b s.heap l1 xs) (o2 : Ob c s.heap l2 ys)
    (h : ∀ h', IsZip h' (s.heap.objs.size + 4) (s.heap.objs.size + 2) (s.heap.objs.size + 3) .none → IsPair h' (s.heap.objs.size + 2) (.ref s.heap.objs.size) (.ref (s.heap.objs.size + 1)) → IsPair h' (s.heap.objs.size + 3) .none .none →
      Ir b h' s.heap.objs.size l1 0 → Ir c h' (s.heap.objs.size + 1) l2 0 → h'.objs.size = s.heap.objs.size + 5 → (∀ q o, s.heap.get? q = some o → h'.get? q = some o) → Q (.ref (s.heap.objs.size + 4)) { s with heap := h' }) :
    wpAny (model prog w) A (call (.type "zip") [.ref l1, .ref l2]) Q E s := by
  refine callType_new PySem.F.called_zip (by decide) (PySem.F.typeCall_zip_2 _ _) (PySem.F.newCall_zip_2 _ _) (fun obj => PySem.F.args_object_init_3 obj _ _) PySem.F.entry_zip_new (meets_new b c l1 l2 xs ys) ⟨o1, o2, ?_⟩
  have z1 : (zh1 b s.heap l1).objs.size = s.heap.objs.size + 1 := Heap.size_push ..
  have z2 : (zh2 b c s.heap l1 l2).objs.size = s.heap.objs.size + 2 := by rw [Heap.size_push, z1]
  have z3 : (zh3 b c s.heap l1 l2).objs.size = s.heap.objs.size + 3 := by rw [Heap.size_push, z2]
  have z4 : (zh4 b c s.heap l1 l2).objs.size = s.heap.objs.size + 4 := by rw [Heap.size_push, z3]
  have z5 : (zh5 b c s.heap l1 l2).objs.size = s.heap.objs.size + 5 := by rw [Heap.size_push, z4]
  have g5 : (zh5 b c s.heap l1 l2).get? (zh4 b c s.heap l1 l2).objs.size = some _ := Heap.get?_push_size _ rfl
  have g4 : (zh5 b c s.heap l1 l2).get? (zh3 b c s.heap l1 l2).objs.size = some _ := Heap.get?_push_of_some _ (Heap.get?_push_size _ rfl)
  have g3 : (zh5 b c s.heap l1 l2).get? (zh2 b c s.heap l1 l2).objs.size = some _ := Heap.get?_push_of_some _ (Heap.get?_push_of_some _ (Heap.get?_push_size _ rfl))
  have g2 : (zh5 b c s.heap l1 l2).get? (zh1 b s.heap l1).objs.size = some (itO c l2) := Heap.get?_push_of_some _ (Heap.get?_push_of_some _ (Heap.get?_push_of_some _ (Heap.get?_push_size _ (itO_free c l2))))
  have g1 : (zh5 b c s.heap l1 l2).get? s.heap.objs.size = some (itO b l1) := Heap.get?_push_of_some _ (Heap.get?_push_of_some _ (Heap.get?_push_of_some _ (Heap.get?_push_of_some _ (Heap.get?_push_size _ (itO_free b l1)))))
  show _ ∧ _
  rw [z2, z3, z4] at g5
  rw [z1, z2] at g3
  rw [z3] at g4
  rw [z1] at g2
  rw [z4]
  exact ⟨⟨_, g5, rfl⟩, h _ g5 g3 g4 (.new g1) (.new g2) z5 fun q o x => Heap.get?_push_of_some _ (Heap.get?_push_of_some _ (Heap.get?_push_of_some _ (Heap.get?_push_of_some _ (Heap.get?_push_of_some _ x))))⟩
end
/-! ### the walk over it -/
def Sq (K : PySem.W.Frag) (b : Bool) (H : Hp) (a : Addr) (xs : List V) : Prop := match b with
  | true => SqL K H a xs
  | false => SqT K H a xs
theorem Sq.its {X : Cx} {pins : List (Addr × Obj)} {σ : L2.St} {H : Hp} {s : Shared} {b : Bool} {a : Addr} {xs : List V} (I : Inv X pins σ H s) (h : Sq X.K b H a xs) : ∃ its, Vals xs its ∧ Ob b s.heap a its.toArray ∧ a < s.heap.objs.size := by
  cases b
  · obtain ⟨its, rv, p, _⟩ := I.tuple h
    obtain ⟨o, ho, _⟩ := id p
    exact ⟨its, rv, p, Heap.lt_size ho⟩
  · obtain ⟨its, rv, p, _⟩ := I.list h
    exact ⟨its, rv, p.isList, p.lt⟩
theorem Sq.inj {X : Cx} {pins : List (Addr × Obj)} {σ : L2.St} {H : Hp} {s : Shared} {b : Bool} {a : Addr} {xs ys : List V} (I : Inv X pins σ H s) (h : Sq X.K b H a xs) (h' : Sq X.K b H a ys) : xs = ys := by
  cases b
  · exact I.tuple_inj h h'
  · exact I.list_inj h h'
def ItzS (K : PySem.W.Frag) (b c : Bool) (a a' : Addr) : L2.It :=
  ⟨fun i H => ∃ (xs ys : List V) (x y : V), Sq K b H a xs ∧ Sq K c H a' ys ∧ xs[i]? = some x ∧ ys[i]? = some y,
    fun i H v H' => ∃ T x y, v = .ref T ∧ H T = none ∧ H' = upd H T (.tup [x, y]) ∧ (∀ xs, Sq K b H a xs → xs[i]? = some x) ∧ ∀ ys, Sq K c H a' ys → ys[i]? = some y,
    fun i H => ∃ xs ys : List V, Sq K b H a xs ∧ Sq K c H a' ys ∧ (xs.length ≤ i ∨ ys.length ≤ i)⟩
theorem turn {P : Program} {w : World} {K : PySem.W.Frag} {elts : List Expr} {kk : Nat} {tpos : Pos} {b c : Bool} {a a' z TI TO i1 i2 : Addr} (D : ZipApart z TI TO i1 i2 a a') :
    Turn P w K (.Tuple elts kk tpos) (ItzS K b c a a') [z, TI, TO, i1, i2] z (fun i h => IsZip h z TI TO .none ∧ IsPair h TI (.ref i1) (.ref i2) ∧ (∃ x y, IsPair h TO x y) ∧ Ir b h i1 a i ∧ Ir c h i2 a' i) where
  mem := by simp
  obj := fun i h st q hq => by
    obtain ⟨hz, hTI, ⟨x, y, hTO⟩, h1, h2⟩ := st
    have e : q = z ∨ q = TI ∨ q = TO ∨ q = i1 ∨ q = i2 := by simpa using hq
    rcases e with e | e | e | e | e
    · rw [e]
      exact ⟨_, hz, fun v q => nomatch q⟩
    · rw [e]
      exact ⟨_, hTI, fun v q => nomatch q⟩
    · rw [e]
      exact ⟨_, hTO, fun v q => nomatch q⟩
    · rw [e]
      exact h1.fields
    · rw [e]
      exact h2.fields
  keep := fun i h h' ⟨hz, hTI, ⟨x, y, hTO⟩, h1, h2⟩ k => ⟨k z (by simp) _ hz, k TI (by simp) _ hTI, ⟨x, y, k TO (by simp) _ hTO⟩, h1.at fun o q => k i1 (by simp) o q, h2.at fun o q => k i2 (by simp) o q⟩
  item := by
    intro X hP hw hK hc i pins s σ H E I hf st hg
    subst hP hw hK
    obtain ⟨hz, hTI, ⟨x0, y0, hTO⟩, h1, h2⟩ := st
    obtain ⟨xs, ys, x, y, qx, qy, hx, hy⟩ := hg
    obtain ⟨its, rv, p, _⟩ := qx.its I
    obtain ⟨its2, rv2, p2, _⟩ := qy.its I
    obtain ⟨u, hu, ru⟩ := rv.get hx
    obtain ⟨u2, hu2, ru2⟩ := rv2.get hy
    have zl : z < s.heap.objs.size := Heap.lt_size hz
    refine pyNext_item D hz hTI hTO h1 h2 p p2 (x := u) (y := u2) (by simpa using hu) (by simpa using hu2) fun h' z' TO' h1' h2' hT hsz hk => ?_
    refine ⟨_, rfl, wpAny_letOwnedTupleGo_zip (s := { s with heap := h' }) z' fun h'' z'' sb => ?_⟩
    have hT2 : h''.get? s.heap.objs.size = some { cls := .type "tuple", data := .seq #[u, u2] } := (sb.2 _ (Nat.ne_of_gt zl)).trans hT
    have new : ObjOk X.prog X.w (upd H s.heap.objs.size (.tup [x, y])) h'' s.heap.objs.size (.tup [x, y]) := ⟨by show 2 ≤ sizeLine; decide, [u, u2], .cons ru (.cons ru2 .nil), ⟨_, hT2, rfl, _, rfl⟩⟩
    have I1 : Inv X pins σ (upd H s.heap.objs.size (.tup [x, y])) { s with heap := h'' } :=
      I.turnedNew (t' := s.toks) (ch := [z, TI, TO, i1, i2]) (fun q o hb e => (sb.2 q (fun q' => hb (by simp [q']))).trans (hk q o (fun q' => hb (by simp [q'])) (fun q' => hb (by simp [q'])) (fun q' => hb (by simp [q'])) (fun q' => hb (by simp [q'])) e)) hf (Nat.le_refl _) new
    refine ⟨.ref s.heap.objs.size, _, I1, rfl, ⟨_, x, y, rfl, I.hok.fresh (Nat.le_refl _), rfl, fun l hl => by rw [hl.inj I qx]; exact hx, fun l hl => by rw [hl.inj I qy]; exact hy⟩, ⟨z'', ?_, ⟨u, u2, ?_⟩, ?_, ?_⟩, fun q hq => ?_⟩
    · exact (sb.2 _ D.TIz).trans (hk _ _ D.TIz D.TITO D.TIi1 D.TIi2 hTI)
    · exact (sb.2 _ D.TOz).trans TO'
    · exact h1'.at fun o q => (sb.2 _ D.i1z).trans q
    · exact h2'.at fun o q => (sb.2 _ D.i2z).trans q
    · have hlt : q < s.heap.objs.size := by
        have e : q = z ∨ q = TI ∨ q = TO ∨ q = i1 ∨ q = i2 := by simpa using hq
        rcases e with e | e | e | e | e
        · rw [e]; exact zl
        · rw [e]; exact Heap.lt_size hTI
        · rw [e]; exact Heap.lt_size hTO
        · rw [e]; exact h1.lt
        · rw [e]; exact h2.lt
      rw [upd_ne (Nat.ne_of_lt hlt)]
      exact (hf q hq).1
  done := by
    intro X hP hw hK hc i pins s σ H E I hf st hg
    subst hP hw hK
    obtain ⟨hz, hTI, ⟨x0, y0, hTO⟩, h1, h2⟩ := st
    obtain ⟨xs, ys, qx, qy, hend⟩ := hg
    obtain ⟨its, rv, p, _⟩ := qx.its I
    obtain ⟨its2, rv2, p2, _⟩ := qy.its I
    have l1 := rv.length
    have l2 := rv2.length
    have he : its.toArray[i]? = none ∨ its2.toArray[i]? = none := by
      rcases hend with q | q
      · exact .inl (by simp; omega)
      · exact .inr (by simp; omega)
    exact pyNext_end (I.ok.hd hc) D hz hTI hTO h1 h2 p p2 he fun h' hk => ⟨rfl, I.turnedL (t' := s.toks) (ch := [z, TI, TO, i1, i2]) (fun q o hb e => hk q o (fun q' => hb (by simp [q'])) (fun q' => hb (by simp [q'])) (fun q' => hb (by simp [q'])) (fun q' => hb (by simp [q'])) e) hf⟩
  self := fun A i s Q E st h => wpAny_pyIter_zip st.1 h
/-- for .. in zip(x, y) -/
def iZipS (K : PySem.W.Frag) (ta : TA) : TI := fun σ H R => ta σ H fun vs H1 => ∃ b c a a' xs ys, vs = [.ref a, .ref a'] ∧ Sq K b H1 a xs ∧ Sq K c H1 a' ys ∧ R (ItzS K b c a a') H1
theorem pi_zipS {X : Cx} {e e2 : Expr} {ta : TA} {p pos tpos : Pos} {elts : List Expr} {kk : Nat} (hg : Gl X "zip") (hm : X.mg "zip" = none) (ha : PA X [e, e2] ta)
    (hs : starEach [e, e2] X.env = (false, eval e X.env) :: starEach [e2] X.env := by rfl) (hpl : (backTo pos (starEach [e2] X.env)).any (·.1) = false := by rfl) : PI X (.Tuple elts kk tpos) (.Call (.Name "zip" p) [e, e2] [] pos) (iZipS X.K ta) := by
  refine ⟨fun pins s σ H R I h => ?_⟩
  refine Call_ (ld_blt I hg hm PyProof.Rows.boot_zip (PyProof.Rows.callWith_type1 (thn (ha.run pos pins s σ H _ I h) fun us s1 ⟨vs, H1, I1, r1, q1⟩ => ?_) hs hpl))
  obtain ⟨b, c, a, a', xs, ys, ex, qx, qy, q⟩ := q1
  subst ex
  cases r1 with
  | cons r rr =>
    cases rr with
    | cons r' rr =>
      cases rr
      cases r
      cases r'
      have fresh5 : ∀ q, q ∈ [s1.heap.objs.size + 4, s1.heap.objs.size + 2, s1.heap.objs.size + 3, s1.heap.objs.size, s1.heap.objs.size + 1] → FpOk X pins H1 q := fun q hq => by
        have hle : s1.heap.objs.size ≤ q := by
          simp only [List.mem_cons, List.not_mem_nil, or_false] at hq
          rcases hq with e | e | e | e | e <;> rw [e] <;> first | exact Nat.le_add_right _ _ | exact Nat.le_refl _
        exact I1.fpOk hle (I1.hok.fresh hle)
      obtain ⟨its, rv, p1, lt1⟩ := qx.its I1
      obtain ⟨its2, rv2, p2, lt2⟩ := qy.its I1
      refine call_new p1 p2 fun h' hz hTI hTO h1 h2 hsz hk => wpAny_pyIter_zip hz ?_
      have I2 : Inv X pins σ H1 { s1 with heap := h' } := I1.kept (t' := s1.toks) hk
      exact ⟨s1.heap.objs.size + 4, [s1.heap.objs.size + 4, s1.heap.objs.size + 2, s1.heap.objs.size + 3, s1.heap.objs.size, s1.heap.objs.size + 1], _, _, H1, rfl, I2, turn (PySem.W.ktu_apart s1.heap.objs.size a a' lt1 lt2), ⟨hz, hTI, ⟨_, _, hTO⟩, h1, h2⟩, fresh5, q⟩
end ZS
namespace DL
open PySem PySem.Spec PyProof.Rows L2 LamX NdefX DLX
section
variable {X : Cx} {P : Gl0} {g : G} {e e2 : Expr} {tl : TL} {pos p tpos : Pos} {E : Ex} {H0 H : Hp} {ss : SS} {σ : L2.St}
/-- a list or a tuple, at a -/
def SqD (P : Gl0) (g : G) (b : Bool) (a : Addr) (vs : List V) (l : List D) (H : Hp) (R : Addr → Prop) : Prop := match b with
  | true => H a = some (.lst vs) ∧ ¬ R a ∧ DenL P g R H vs l
  | false => H a = some (.tup vs) ∧ ¬ R a ∧ DenL P g R H vs l
theorem SqD.mv {b : Bool} {a : Addr} {vs : List V} {l : List D} {H H' : Hp} {R R' : Addr → Prop} (m : ∀ a o, ¬ R a → H a = some o → NT o → H' a = some o ∧ ¬ R' a) (h : SqD P g b a vs l H R) : SqD P g b a vs l H' R' := by
  cases b
  · obtain ⟨h1, h2, h3⟩ := h
    exact ⟨(m a _ h2 h1 NT.tup).1, (m a _ h2 h1 NT.tup).2, DenL.mv (mvR m) h3⟩
  · obtain ⟨h1, h2, h3⟩ := h
    exact ⟨(m a _ h2 h1 NT.lst).1, (m a _ h2 h1 NT.lst).2, DenL.mv (mvR m) h3⟩
theorem SqD.sq {K : PySem.W.Frag} {b : Bool} {a : Addr} {vs : List V} {l : List D} {H : Hp} {R : Addr → Prop} (h : SqD P g b a vs l H R) : ZS.Sq K b H a vs := by
  cases b
  · exact SqT.of h.1
  · exact SqL.of h.1
theorem SqD.den {b : Bool} {a : Addr} {vs : List V} {l : List D} {H : Hp} {R : Addr → Prop} (h : SqD P g b a vs l H R) : DenL P g R H vs l := by
  cases b
  · exact h.2.2
  · exact h.2.2
theorem SqD.of {d : D} {v : V} {R : Addr → Prop} {l : List D} (n : Den P g R H v d) (h : d = .lst l ∨ d = .tup l) : ∃ b a vs, v = .ref a ∧ SqD P g b a vs l H R := by
  rcases h with rfl | rfl
  · obtain ⟨a, ws, rfl, nr, ha, hl⟩ := n.of_lst
    exact ⟨true, a, ws, rfl, ha, nr, hl⟩
  · obtain ⟨a, ws, rfl, nr, ha, hl⟩ := n.of_tup
    exact ⟨false, a, ws, rfl, ha, nr, hl⟩
def zipD (l m : List D) : List D := List.zipWith (fun a b => .tup [a, b]) l m
theorem src_zip {K : PySem.W.Frag} {b c : Bool} {a a' : Addr} {vs ws : List V} {l m : List D} : Src P g (ZS.ItzS K b c a a') (zipD l m) (fun H R => SqD P g b a vs l H R ∧ SqD P g c a' ws m H R) where
  hz := fun H H' R R' k ⟨h1, h2⟩ => ⟨h1.mv k, h2.mv k⟩
  go := fun i H R _ ⟨h1, h2⟩ hi => by
    unfold zipD at hi
    rw [List.length_zipWith] at hi
    have e1 := h1.den.length
    have e2 := h2.den.length
    exact ⟨vs, ws, vs[i]'(by omega), ws[i]'(by omega), h1.sq, h2.sq, List.getElem?_eq_getElem _, List.getElem?_eq_getElem _⟩
  yld := fun i H R x H' d _ ⟨h1, h2⟩ hr hd hy => by
    obtain ⟨T, x, y, rfl, hT, rfl, f1, f2⟩ := hy
    unfold zipD at hd
    rw [List.getElem?_zipWith] at hd
    obtain ⟨dx, dy, e1, e2, rfl⟩ : ∃ dx dy, l[i]? = some dx ∧ m[i]? = some dy ∧ D.tup [dx, dy] = d := by
      cases h3 : l[i]? with
      | none => rw [h3] at hd; simp at hd
      | some dx =>
        cases h4 : m[i]? with
        | none => rw [h3, h4] at hd; simp at hd
        | some dy =>
          rw [h3, h4] at hd
          simp at hd
          exact ⟨dx, dy, rfl, rfl, hd⟩
    obtain ⟨v1, q1, n1⟩ := h1.den.get e1
    obtain ⟨v2, q2, n2⟩ := h2.den.get e2
    have g1 := f1 vs h1.sq
    rw [q1] at g1
    cases g1
    have g2 := f2 ws h2.sq
    rw [q2] at g2
    cases g2
    have ne : ∀ b o, H b = some o → upd H T (.tup [x, y]) b = some o := same_new hT
    have mv : Mv g g R R H (upd H T (.tup [x, y])) := ⟨fun b o n h _ => ⟨ne b o h, n⟩, fun _ _ b => b⟩
    exact ⟨ne, .tup (fun r => hr T r hT) upd_same (.cons (Den.mv mv n1) (.cons (Den.mv mv n2) .nil))⟩
  stop := fun i H R _ ⟨h1, h2⟩ e => by
    have e1 := h1.den.length
    have e2 := h2.den.length
    unfold zipD at e
    rw [List.length_zipWith] at e
    exact ⟨vs, ws, h1.sq, h2.sq, by omega⟩
def items2 (Q : List D → List D → Prop) : List D → Prop
  | [.lst l, .lst m] => Q l m
  | [.lst l, .tup m] => Q l m
  | [.tup l, .lst m] => Q l m
  | [.tup l, .tup m] => Q l m
  | _ => False
theorem items2.ok {Q : List D → List D → Prop} {ds : List D} (h : items2 Q ds) : ∃ a b l m, ds = [a, b] ∧ (a = .lst l ∨ a = .tup l) ∧ (b = .lst m ∨ b = .tup m) ∧ Q l m := by
  unfold items2 at h
  split at h
  · exact ⟨_, _, _, _, rfl, .inl rfl, .inl rfl, h⟩
  · exact ⟨_, _, _, _, rfl, .inl rfl, .inr rfl, h⟩
  · exact ⟨_, _, _, _, rfl, .inr rfl, .inl rfl, h⟩
  · exact ⟨_, _, _, _, rfl, .inr rfl, .inr rfl, h⟩
  · exact h.elim
def vZip (tl : TL) : TL := fun ss Q Qx => tl ss (items2 fun l m => Q (zipD l m)) Qx
theorem i_zip {elts : List Expr} {kk : Nat} (hg : Gl X "zip") (hm : X.mg "zip" = none) (ha : DA X P g [e, e2] tl)
    (hs : starEach [e, e2] X.env = (false, eval e X.env) :: starEach [e2] X.env := by rfl) (hpl : (backTo pos (starEach [e2] X.env)).any (·.1) = false := by rfl) : DI X P g (.Tuple elts kk tpos) (.Call (.Name "zip" p) [e, e2] [] pos) (vZip tl) :=
  ⟨_, ZS.pi_zipS hg hm ha.pa hs hpl, fun σ H E H0 ss Q Qx R S T h k => upA.run S T h fun vs H1 ds S1 e1 ns q => by
    obtain ⟨d1, d2, l, m, rfl, h1, h2, q⟩ := q.ok
    cases ns with
    | cons n1 ns =>
      cases ns with
      | cons n2 ns =>
        cases ns
        obtain ⟨b, a, us, rfl, s1⟩ := SqD.of n1 h1
        obtain ⟨c, a', ws, rfl, s2⟩ := SqD.of n2 h2
        exact ⟨b, c, a, a', us, ws, rfl, s1.sq, s2.sq, k _ H1 (zipD l m) _ S1 e1 src_zip ⟨s1, s2⟩ q⟩⟩
end
end DL

set_option maxRecDepth 100000
set_option maxHeartbeats 4000000
namespace DL
open PySem PySem.Spec PyProof.Rows L2 LamX NdefX DLX
section
variable {X : Cx} {P : Gl0} {g : G} {a b : Expr} {ta tb : TD} {pos p p2 pos2 : Pos} {E : Ex} {H0 H : Hp} {ss : SS} {σ : L2.St}
/-! ### list(range(..)) -/
theorem den_rg {R : Addr → Prop} {lo : Int} : ∀ l : List Nat, DenL P g R H (l.map fun i => V.int (lo + (i : Nat))) (l.map fun (i : Nat) => D.int (lo + (i : Int)))
  | [] => .nil
  | i :: l => .cons .int (den_rg l)
theorem n_listR1 (hc : X.calm = true) (hg : Gl X "list") (hm : X.mg "list" = none) (hg2 : Gl X "range") (hm2 : X.mg "range" = none) (ha : DE X P g a ta)
    (na : starEach [a] X.env = (false, eval a X.env) :: starEach [] X.env := by rfl) (nb : starEach [.Call (.Name "range" p2) [a] [] pos2] X.env = (false, eval (.Call (.Name "range" p2) [a] [] pos2) X.env) :: starEach [] X.env := by rfl) :
    DN X P g (.Call (.Name "list" p) [.Call (.Name "range" p2) [a] [] pos2] [] pos) (fun ss Q Qx => ta ss (isIn fun n => (n ≤ 1000000 ∧ -1000000 ≤ n) ∧ Q (intsD 0 n.toNat)) Qx) :=
  ⟨_, pe_listRg hc hg hm (prg_1 hg2 hm2 ha.pe na) nb, fun σ H E H0 ss Q Qx K S T h k => upE.run S T h fun x H1 dx S1 e1 n1 q1 => by
    obtain ⟨n, rfl, ⟨q1, q2⟩, q3⟩ := q1.ok
    cases n1
    refine ⟨n, rfl, ⟨by omega, by omega, by omega, by omega, by omega⟩, fun z hz => k H1 z _ _ S1 e1 hz ?_ q3⟩
    unfold rgV intsD
    rw [Int.sub_zero]
    exact den_rg _⟩
theorem n_listR2 (hc : X.calm = true) (hg : Gl X "list") (hm : X.mg "list" = none) (hg2 : Gl X "range") (hm2 : X.mg "range" = none) (ha : DE X P g a ta) (hb : DE X P g b tb)
    (na : starEach [a, b] X.env = (false, eval a X.env) :: starEach [b] X.env := by rfl) (nc : starEach [b] X.env = (false, eval b X.env) :: starEach [] X.env := by rfl) (hpl : (backTo pos2 (starEach [b] X.env)).any (·.1) = false := by rfl) (nb : starEach [.Call (.Name "range" p2) [a, b] [] pos2] X.env = (false, eval (.Call (.Name "range" p2) [a, b] [] pos2) X.env) :: starEach [] X.env := by rfl) :
    DN X P g (.Call (.Name "list" p) [.Call (.Name "range" p2) [a, b] [] pos2] [] pos) (fun ss Q Qx => ta ss (isIn fun m => tb ss (isIn fun n => (m ≤ 1000000 ∧ -1000000 ≤ m ∧ n ≤ 1000000 ∧ -1000000 ≤ n) ∧ Q (intsD m (n - m).toNat)) Qx) Qx) :=
  ⟨_, pe_listRg hc hg hm (prg_2 hg2 hm2 ha.pe hb.pe na nc hpl) nb, fun σ H E H0 ss Q Qx K S T h k => upE.run S T h fun x H1 dx S1 e1 n1 q1 => by
    obtain ⟨m, rfl, q1⟩ := q1.ok
    cases n1
    refine upE.run S1 T q1 fun y H2 dy S2 e2 n2 q2 => ?_
    obtain ⟨n, rfl, ⟨q2, q3, q4, q5⟩, q6⟩ := q2.ok
    cases n2
    refine ⟨m, n, rfl, rfl, ⟨by omega, by omega, by omega, by omega, by omega⟩, fun z hz => k H2 z _ _ S2 (e1.trans e2) hz ?_ q6⟩
    unfold rgV intsD
    exact den_rg _⟩
end
end DL

set_option maxRecDepth 100000
set_option maxHeartbeats 4000000
namespace DL
open PySem PySem.Spec PyProof.Rows L2 LamX NdefX DLX

/-! ### functions' values that are the same in all frames: defs of the program, closures that capture nothing -/
structure CallV (Pr : Program) (w : World) (K : PySem.W.Frag) (mg : Str → Option Value) (base : Heap) (P : Gl0) (g : G) (k : Nat) (d : D) (c : Ctr) : Prop where
  run : ∀ (A : Around) (outer : List Env) (s : Shared) (H : Hp) (R : Addr → Prop) (hW : ∀ a, g.W a → R a) (v : V) (u : Value) (us : List Value) (vs : List V) (ds : List D) (Q : D → Prop) (Qx : Err → Prop) (QV : VK) (XE : XK), Room k A → A.guards = some [] → Env0 Pr w K mg base A outer s H → SG P g R H →
    Den P g R H v d → RelV v u → DenL P g R H vs ds → Vals vs us → c ds Q Qx →
    (∀ v H' d, Ext g.W H H' → SG P g R H' → Den P g R H' v d → Q d → QV v H') → (∀ cls dd H' e, Ext g.W H H' → SG P g R H' → ErrD P g R H' cls dd e → Qx e → XE cls dd H') →
    ∃ f, u = .ref f ∧ PySem.W.FnAt f s.heap ∧ codeAny (model Pr w) A (.call (.ref f) ⟨us, []⟩) (CR (L2.CX Pr w) outer Pr w H s QV XE) s
/-- what a call of such a value does -/
def apS (fs : D → Option Ctr) : Ap := fun d ds Q Qx => match fs d with
  | some c => c ds Q Qx
  | none => False
section
variable {Pr : Program} {w : World} {K : PySem.W.Frag} {mg : Str → Option Value} {base : Heap} {P : Gl0} {g : G} {k j n : Nat} {gp : B → Prop}
theorem CallV.mono {d : D} {c : Ctr} (h : CallV Pr w K mg base P g j d c) (hjk : j ≤ k) : CallV Pr w K mg base P g k d c :=
  ⟨fun A outer s H R hW v u us vs ds Q Qx QV XE hr => h.run A outer s H R hW v u us vs ds Q Qx QV XE (hr.mono hjk)⟩
theorem apOk_of {fs : D → Option Ctr} (h : ∀ d c, fs d = some c → CallV Pr w K mg base P g k d c) : ApOk Pr w K mg base P g k (apS fs) :=
  ⟨fun A outer s H R hW v u d us vs ds Q Qx QV XE hr hgd e0 sg n rv dl r hc => by
    unfold apS at hc
    split at hc
    · rename_i c e
      exact (h d c e).run A outer s H R hW v u us vs ds Q Qx QV XE hr hgd e0 sg n rv dl r hc
    · exact hc.elim⟩
/-- the context with another lot left out -/
def G.re (g : G) (R : Addr → Prop) (hW : ∀ a, g.W a → R a) : G where
  toB := g.toB
  M := R
  hW := hW
  z := g.z
  hz := g.hz
theorem mv_re {R R' : Addr → Prop} {hW : ∀ a, g.W a → R a} {H : Hp} : Mv g (g.re R hW) R' R' H H := ⟨fun a o n q _ => ⟨q, n⟩, fun _ _ b => b⟩
theorem mv_er {R R' : Addr → Prop} {hW : ∀ a, g.W a → R a} {H : Hp} : Mv (g.re R hW) g R' R' H H := ⟨fun a o n q _ => ⟨q, n⟩, fun _ _ b => b⟩
theorem sg_re {R R' : Addr → Prop} {hW : ∀ a, g.W a → R a} {H : Hp} (s : SG P g R' H) : SG P (g.re R hW) R' H := ⟨s.tabs, s.inv, s.trk, s.pin⟩
theorem sg_er {R R' : Addr → Prop} {hW : ∀ a, g.W a → R a} {H : Hp} (s : SG P (g.re R hW) R' H) : SG P g R' H := ⟨s.tabs, s.inv, s.trk, s.pin⟩
/-- a def of the program -/
theorem callV_fn {x : Str} {ps : List Str} {c : Ctr} (F : FD Pr w K mg base x k ps (spD P gp n c)) (hn : ps.length = n) (hfn : ∀ f, P.fnv x f → mg x = some (.ref f)) (hP : ∀ y f, P.fnv y f → PySem.W.fnIn K f = true) (hgp : gp g.toB) : CallV Pr w K mg base P g k (.fn x) (fun ds Q Qx => ds.length = n ∧ c ds Q Qx) := by
  refine ⟨fun A outer s H R hW v u us vs ds Q Qx QV XE hr hgd e0 sg nd rv dl r ⟨hl, hc⟩ hq hx => ?_⟩
  obtain ⟨f, fd, hm, hk, hb, Fn⟩ := F.ex
  cases nd with
  | @fn a _ hf =>
    have e := hfn a hf
    rw [hm] at e
    cases e
    have KX : K.In s.heap := e0.mod.kin.keeps fun b o e => (e0.bs b o e).1
    refine ⟨f, rv, fnAt_in KX (hP _ _ hf), ?_⟩
    have hul : us.length = ps.length := by rw [← r.length, dl.length, hl, hn]
    have hb' : BindsTo s fd ⟨us, []⟩ (ps.zip us) := by
      have b := hb s us KX (by rw [List.append_nil]; exact hul)
      rw [List.append_nil] at b
      exact b
    exact Fn.run A outer s H ⟨us, []⟩ us vs QV XE hr hgd e0 hb' r ⟨g.re R hW, ds, Q, Qx, hgp, by rw [dl.length, hl], sg_re sg, DenL.mv mv_re dl, hc, fun v H' d e sg' n' q => hq v H' d e (sg_er sg') (Den.mv mv_er n') q, fun cls dd H' er e sg' n' q => hx cls dd H' er e (sg_er sg') (ErrD.mv mv_er n') q⟩
/-- a closure that captures nothing -/
theorem callV_clo {i : Nat} {cs : List (Str × Addr)} {S : CloS} {N ps : List Str} {c : CloT} (hS : P.S i = some S) (CB : CloB Pr w K mg base P gp k S N ps [] c) (hjs : c.js = []) (hfr : cloFrom cs S.scope.names [] = []) (hgp : gp g.toB) : CallV Pr w K mg base P g (k + 1) (.clo i cs) (fun ds Q Qx => c.run [] ds Q Qx) := by
  refine ⟨fun A outer s H R hW v u us vs ds Q Qx QV XE hr hgd e0 sg nd rv dl r ⟨hl, hc⟩ hq hx => ?_⟩
  cases nd with
  | @clo f c' _ S' _ eS nf nc hf hcO =>
    rw [hS] at eS
    cases eS
    rw [hfr] at hf
    refine ⟨f, rv, ?_, ?_⟩
    · obtain ⟨⟨od, sl, doc, pm, ctv, ho⟩, _, _⟩ := e0.hok f _ hf
      exact ⟨_, _, _, _, ho⟩
    unfold CloT.start at hc
    rw [hjs] at hc
    exact clo_run (ws := []) (caps := []) (g := g.re R hW) CB hr hgd e0 hgp hf hcO ⟨rfl, (fun y b q => by cases q), (fun y y' b q => by cases q), (fun i y q => by cases q)⟩ r (sg_re sg) (DenL.mv mv_re dl) rfl (fun i d q => by cases q) (fun i d q => by cases q) hl hc
      (fun v H' d e sg' n' q => hq v H' d e (sg_er sg') (Den.mv mv_er n') q) (fun cls dd H' er e sg' n' q => hx cls dd H' er e (sg_er sg') (ErrD.mv mv_er n') q)
end
section
variable {X : Cx} {P : Gl0} {g : G} {pos : Pos}
/-- a def's name, as a value -/
theorem d_fnv {x : Str} {f : Addr} (hg : Gl X x) (hm : X.mg x = some (.ref f)) (hf : P.fnv x f) (hdb : (x == ("__debug__" : Str)) = false := by decide) : DE X P g (.Name x pos) (vC (.fn x)) :=
  DE.of (pe_glob (v := .ref f) hg hm rfl hdb) fun σ H E H0 ss Q Qx S T h => .now S (.fn hf) h
end
end DL

set_option maxRecDepth 100000
set_option maxHeartbeats 4000000
namespace DL
open PySem PySem.Spec PyProof.Rows L2 LamX NdefX DLX

/-! ### comprehensions that give, place by place, what a function tells -/
section
variable {n : Nat} {L : List D} {ST : Nat → D → List D → (Nat → List D → Prop) → Prop} {END : List D → Prop}
theorem lc_of (f : Nat → D) (hn : L.length = n) (hs : ∀ (i : Nat) (d : D), i < n → L[i]? = some d → ∀ (acc : List D) (I : Nat → List D → Prop), I (i + 1) (acc ++ [f i]) → ST i d acc I) (he : END ((List.range n).map f)) :
    ∃ I : Nat → List D → Prop, I 0 [] ∧ (∀ (i : Nat) (d : D) (acc : List D), L[i]? = some d → I i acc → ST i d acc I) ∧ ∀ acc, I L.length acc → END acc := by
  refine ⟨fun i acc => acc = (List.range i).map f, rfl, fun i d acc hd e => ?_, fun acc e => ?_⟩
  · have hi : i < n := by rw [← hn]; exact (List.getElem?_eq_some_iff.mp hd).1
    exact hs i d hi hd acc _ (by rw [e]; exact rm_step f i)
  · rw [e, hn]
    exact he
/-- over a list told place by place -/
theorem lc_rm (h : Nat → D) (f : Nat → D) (hL : L = (List.range n).map h) (hs : ∀ (i : Nat), i < n → ∀ (acc : List D) (I : Nat → List D → Prop), I (i + 1) (acc ++ [f i]) → ST i (h i) acc I) (he : END ((List.range n).map f)) :
    ∃ I : Nat → List D → Prop, I 0 [] ∧ (∀ (i : Nat) (d : D) (acc : List D), L[i]? = some d → I i acc → ST i d acc I) ∧ ∀ acc, I L.length acc → END acc := by
  subst hL
  refine lc_of f (by rw [List.length_map, List.length_range]) (fun i d hi hd acc I hI => ?_) he
  rw [List.getElem?_map, List.getElem?_range hi] at hd
  cases hd
  exact hs i hi acc I hI
/-- .. with those left out of which f tells nothing -/
theorem lc_rmF (h : Nat → D) (f : Nat → Option D) (hL : L = (List.range n).map h) (hs : ∀ (i : Nat), i < n → ∀ (acc : List D) (I : Nat → List D → Prop), (∀ v, f i = some v → I (i + 1) (acc ++ [v])) → (f i = none → I (i + 1) acc) → ST i (h i) acc I) (he : END ((List.range n).filterMap f)) :
    ∃ I : Nat → List D → Prop, I 0 [] ∧ (∀ (i : Nat) (d : D) (acc : List D), L[i]? = some d → I i acc → ST i d acc I) ∧ ∀ acc, I L.length acc → END acc := by
  subst hL
  refine ⟨fun i acc => acc = (List.range i).filterMap f, rfl, fun i d acc hd e => ?_, fun acc e => ?_⟩
  · have hi : i < n := by
      have := (List.getElem?_eq_some_iff.mp hd).1
      rwa [List.length_map, List.length_range] at this
    rw [List.getElem?_map, List.getElem?_range hi] at hd
    cases hd
    refine hs i hi acc _ (fun v hv => ?_) fun hv => ?_
    · rw [e]; exact rf_yes hv
    · rw [e]; exact rf_no hv
  · rw [List.length_map, List.length_range] at e
    rw [e]
    exact he
theorem intsD_rm {a : Int} : intsD a n = (List.range n).map fun (i : Nat) => D.int (a + (i : Int)) := by
  rfl
/-- over range(n) -/
theorem lc_rng (f : Nat → D) {k : Nat} (hk : k = n := by first | exact Int.toNat_natCast _ | rfl | omega) (hs : ∀ (i : Nat), i < n → ∀ (acc : List D) (I : Nat → List D → Prop), I (i + 1) (acc ++ [f i]) → ST i (.int (i : Int)) acc I) (he : END ((List.range n).map f)) :
    ∃ I : Nat → List D → Prop, I 0 [] ∧ (∀ (i : Nat) (d : D) (acc : List D), (intsD 0 k)[i]? = some d → I i acc → ST i d acc I) ∧ ∀ acc, I (intsD 0 k).length acc → END acc := by
  subst hk
  exact lc_rm (fun i => D.int (0 + (i : Int))) f intsD_rm (fun i hi acc I hI => by rw [Int.zero_add]; exact hs i hi acc I hI) he
theorem lc_rngF (f : Nat → Option D) {k : Nat} (hk : k = n := by first | exact Int.toNat_natCast _ | rfl | omega) (hs : ∀ (i : Nat), i < n → ∀ (acc : List D) (I : Nat → List D → Prop), (∀ v, f i = some v → I (i + 1) (acc ++ [v])) → (f i = none → I (i + 1) acc) → ST i (.int (i : Int)) acc I) (he : END ((List.range n).filterMap f)) :
    ∃ I : Nat → List D → Prop, I 0 [] ∧ (∀ (i : Nat) (d : D) (acc : List D), (intsD 0 k)[i]? = some d → I i acc → ST i d acc I) ∧ ∀ acc, I (intsD 0 k).length acc → END acc := by
  subst hk
  exact lc_rmF (fun i => D.int (0 + (i : Int))) f intsD_rm (fun i hi acc I hI hJ => by rw [Int.zero_add]; exact hs i hi acc I hI hJ) he
/-- over a list of numbers -/
theorem lc_ints (ns : List Int) (f : Int → D) (hL : L = ns.map D.int) (hs : ∀ (i : Nat) (x : Int), ns[i]? = some x → ∀ (acc : List D) (I : Nat → List D → Prop), I (i + 1) (acc ++ [f x]) → ST i (.int x) acc I) (he : END (ns.map f)) :
    ∃ I : Nat → List D → Prop, I 0 [] ∧ (∀ (i : Nat) (d : D) (acc : List D), L[i]? = some d → I i acc → ST i d acc I) ∧ ∀ acc, I L.length acc → END acc := by
  subst hL
  refine ⟨fun i acc => acc = (ns.take i).map f, rfl, fun i d acc hd e => ?_, fun acc e => ?_⟩
  · rw [List.getElem?_map] at hd
    obtain ⟨x, hx, rfl⟩ := Option.map_eq_some_iff.mp hd
    exact hs i x hx acc _ (by rw [e]; exact map_step f hx)
  · rw [List.length_map, List.take_length] at e
    rw [e]
    exact he
end
end DL

set_option maxRecDepth 100000
set_option maxHeartbeats 4000000
namespace DL
open PySem PySem.Spec PyProof.Rows L2 LamX NdefX DLX

/-! ### a tuple of any number of names as a target -/
section
variable {X : Cx} {P : Gl0} {g : G} {es : List Expr} {ks : List Nat}
structure NGs (X : Cx) (es : List Expr) (ks : List Nat) : Prop where
  ex : ∃ gt : TGs, PGs X es gt ∧ ∀ (vs : List V) (σ : L2.St) (H : Hp) (Q : L2.St → Hp → Prop), vs.length = ks.length → Q ((ks.zip vs).foldl (fun s p => s.set p.1 (some p.2)) σ) H → gt vs σ H Q
theorem ngs_nil : NGs X [] [] := ⟨gNil, pgs_nil, fun vs σ H Q h q => ⟨List.eq_nil_of_length_eq_zero h, q⟩⟩
theorem ngs_cons (i : Nat) {x : Str} {p : Pos} (hN : X.N.Nodup) (h : NGs X es ks) (hi : X.N[i]? = some x := by rfl) (hx : Loc X.env.scope x := by first | exact Or.inl rfl | exact Or.inr rfl)
    (hf : X.fn x = true ∨ X.env.scope.names.lookup x = some .local := by first | exact .inl rfl | exact .inr rfl | assumption) (hs : (assignEach (.Name x p :: es) X.env).map (·.2) = assign (.Name x p) X.env :: (assignEach es X.env).map (·.2) := by rfl) : NGs X (.Name x p :: es) (i :: ks) := by
  obtain ⟨gt, h1, h2⟩ := h.ex
  refine ⟨_, pgs_cons (pg_name hN hi hx hf) h1 hs, fun vs σ H Q hl q => ?_⟩
  cases vs with
  | nil => cases hl
  | cons v vs => exact ⟨v, vs, rfl, h2 vs _ H Q (Nat.succ.inj hl) q⟩
theorem g_names {kk : Nat} {p3 : Pos} (hc : X.calm = true) (h : NGs X es ks) (js : List Nat := ks) (hj : ∀ k ∈ ks, k ∈ js := by decide) (hn : (assignEach es X.env).length = ks.length := by rfl) (hst : (assignEach es X.env).findIdx? (·.1) = none := by rfl) : DG X P g (.Tuple es kk p3) js (gT ks) := by
  obtain ⟨gt, h1, h2⟩ := h.ex
  refine ⟨_, pg_tup hc h1 hn hst, fun v d σ H E H0 ss Q K S n h k => ?_⟩
  unfold gT at h
  split at h
  · rename_i l
    obtain ⟨a, vs, rfl, _, ha, hl⟩ := n.of_tup
    obtain ⟨e1, q⟩ := h
    have el := hl.length
    obtain ⟨σ', a1, a2, a4, a3⟩ := stt_setN ks S hl e1.symm
    refine ⟨a, vs, rfl, SqT.of ha, el.trans e1, h2 vs σ H _ (el.trans e1) ?_⟩
    have := k σ' _ a1 a2 (fun no => a4 fun k hk => no.at k (hj k hk)) (by rw [a3]; exact wipe_fold js ks hj _ _) q
    rw [a3] at this
    exact this
  · exact h.elim
end
end DL

set_option maxRecDepth 100000
set_option maxHeartbeats 4000000
namespace DL
open PySem PySem.Spec PyProof.Rows L2 LamX NdefX DLX

/-! ### several values at once, some of them lists of one's own -/
def Ex.outs (E : Ex) (ps : List Addr) : Ex := ⟨fun a => E.x a ∨ a ∈ ps, E.z, E.hz⟩
theorem outs_nil {E : Ex} : E.outs [] = E := by
  cases E
  simp [Ex.outs]
theorem outs_cons {E : Ex} {p : Addr} {ps : List Addr} : (E.out p).outs ps = E.outs (p :: ps) := by
  cases E
  simp only [Ex.outs, Ex.out, List.mem_cons, or_assoc]
/-- values and what they are to be: told, or a list of one's own (at an address of ps) -/
inductive OL (P : Gl0) (g : G) (R : Addr → Prop) (H : Hp) : List V → List Sl → List Addr → Prop
  | nil : OL P g R H [] [] []
  | v {v : V} {d : D} {vs : List V} {sls : List Sl} {ps : List Addr} : Den P g R H v d → OL P g R H vs sls ps → OL P g R H (v :: vs) (.v d :: sls) ps
  | own {p : Addr} {xs : List V} {l : List D} {vs : List V} {sls : List Sl} {ps : List Addr} : H p = some (.lst xs) → DenL P g R H xs l → p ∉ ps → OL P g R H vs sls ps → OL P g R H (.ref p :: vs) (.own (.lst l) :: sls) (p :: ps)
section
variable {X : Cx} {P : Gl0} {g : G} {e : Expr} {es : List Expr} {ta : TD} {tl : TL} {pos p : Pos} {E : Ex} {H0 H H' : Hp} {ss : SS} {σ : L2.St} {R R' : Addr → Prop} {vs : List V} {sls : List Sl} {ps : List Addr}
theorem OL.mv (m : Mv g g R R' H H') (k : ∀ a xs, H a = some (.lst xs) → H' a = some (.lst xs)) (h : OL P g R H vs sls ps) : OL P g R' H' vs sls ps := by
  induction h with
  | nil => exact .nil
  | v n _ ih => exact .v (Den.mv m n) ih
  | own h1 h2 h3 _ ih => exact .own (k _ _ h1) (DenL.mv m h2) h3 ih
theorem OL.length (h : OL P g R H vs sls ps) : vs.length = sls.length := by
  induction h with
  | nil => rfl
  | v _ _ ih => simp [ih]
  | own _ _ _ _ ih => simp [ih]
abbrev TO3 := SS → (List Sl → Prop) → (Err → SS → Prop) → Prop
def APO (P : Gl0) (g : G) (E : Ex) (H0 : Hp) (ss : SS) (σ : L2.St) (H : Hp) (Q : List Sl → Prop) : List V → Hp → Prop := fun vs H' => ∃ sls ps, Stt P g (E.outs ps) H0 ss σ H' ∧ Ext g.W H H' ∧ (∀ p ∈ ps, H p = none) ∧ OL P g (Rg g (E.outs ps) σ ss) H' vs sls ps ∧ Q sls
structure DAO (X : Cx) (P : Gl0) (g : G) (es : List Expr) (t : TO3) : Prop where
  ex : ∃ ta : TA, PA X es ta ∧ ∀ (σ : L2.St) (H : Hp) (E : Ex) (H0 : Hp) (ss : SS) (Q : List Sl → Prop) (Qx : Err → SS → Prop) (K : List V → Hp → Prop), Stt P g E H0 ss σ H → TX X P g E H0 Qx → t ss Q Qx → (∀ vs H', APO P g E H0 ss σ H Q vs H' → K vs H') → ta σ H K
def vNilO : TO3 := fun _ Q _ => Q []
def vConsO (ta : TD) (tl : TO3) : TO3 := fun ss Q Qx => ta ss (fun x => tl ss (fun xs => Q (.v x :: xs)) Qx) Qx
def vOwnO (tn : TL) (tl : TO3) : TO3 := fun ss Q Qx => tn ss (fun x => tl ss (fun xs => Q (.own (.lst x) :: xs)) Qx) Qx
theorem ao_nil : DAO X P g [] vNilO := ⟨_, pa_nil, fun σ H E H0 ss Q Qx K S T h k => k [] H ⟨[], [], by rw [outs_nil]; exact S, Ext.refl _ _, (fun p hp => by cases hp), .nil, h⟩⟩
theorem rg_outs {x : Addr} : Rg g (E.outs ps) σ ss x ↔ (Rg g E σ ss x ∨ x ∈ ps) := by
  constructor
  · rintro (h | (h | h) | h)
    · exact .inl (.inl h)
    · exact .inl (.inr (.inl h))
    · exact .inr h
    · exact .inl (.inr (.inr h))
  · rintro ((h | h | h) | h)
    · exact .inl h
    · exact .inr (.inl (.inl h))
    · exact .inr (.inr h)
    · exact .inr (.inl (.inr h))
theorem mv_outs (e : Ext g.W H H') (hp : ∀ p ∈ ps, H p = none) : Mv g g (Rg g E σ ss) (Rg g (E.outs ps) σ ss) H H' :=
  ⟨fun a o n q t => ⟨e.keep a o q t.nt fun w => n (Rg.W w), fun r => (rg_outs.mp r).elim n fun z => by rw [hp a z] at q; cases q⟩, fun _ _ b => b⟩
theorem ao_cons {tl : TO3} (ha : DE X P g e ta) (hr : DAO X P g es tl) (hs : starEach (e :: es) X.env = (false, eval e X.env) :: starEach es X.env := by rfl) : DAO X P g (e :: es) (vConsO ta tl) := by
  obtain ⟨tr, h1, h2⟩ := hr.ex
  refine ⟨_, pa_cons ha.pe h1 hs, fun σ H E H0 ss Q Qx K S T h k => ?_⟩
  refine upE.run S T h fun v H1 d S1 e1 n1 q1 => h2 σ H1 E H0 ss _ Qx _ S1 T q1 fun vs H2 ⟨sls, ps, S2, e2, hp, ol, q2⟩ => k _ H2 ⟨.v d :: sls, ps, S2, e1.trans e2, fun p hm => e1.gone p (hp p hm), .v (Den.mv (mv_outs e2 hp) n1) ol, q2⟩
theorem ao_own {tn : TL} {tl : TO3} (ha : DN X P g e tn) (hr : DAO X P g es tl) (hs : starEach (e :: es) X.env = (false, eval e X.env) :: starEach es X.env := by rfl) : DAO X P g (e :: es) (vOwnO tn tl) := by
  obtain ⟨te, a1, a2⟩ := ha.ex
  obtain ⟨tr, h1, h2⟩ := hr.ex
  refine ⟨_, pa_cons a1 h1 hs, fun σ H E H0 ss Q Qx K S T h k => ?_⟩
  refine a2 σ H E H0 ss _ Qx _ S T h fun H1 p vs l S1 e1 hp n q => ?_
  have fp := S1.fresh hp
  have S1' : Stt P g (E.out p) H0 ss σ (upd H1 p (.lst vs)) := S1.outN hp NR.lst
  refine h2 σ _ (E.out p) H0 ss _ Qx _ S1' T.out q fun ws H2 ⟨sls, ps, S2, e2, hps, ol, q2⟩ => ?_
  rw [outs_cons] at S2 ol
  have ep : H2 p = some (.lst vs) := e2.keep p _ upd_same NT.lst fun w => fp (Rg.W w)
  have eN : Ext g.W H1 (upd H1 p (.lst vs)) := Ext.new hp
  have e12 : Ext g.W H1 H2 := eN.trans e2
  have hps' : ∀ p' ∈ p :: ps, H1 p' = none := fun p' hm => by
    rcases List.mem_cons.mp hm with z | z
    · rw [z]; exact hp
    · exact eN.gone _ (hps p' z)
  exact k _ H2 ⟨.own (.lst l) :: sls, p :: ps, S2, e1.trans e12, fun p' hm => e1.gone _ (hps' p' hm), .own ep (DenL.mv (mv_outs e12 hps') n) (fun z => by
    have := hps p z
    rw [upd_same] at this
    cases this) ol, q2⟩
/-! ### .. put into slots -/
def setO : List Nat → List Sl → SS → SS
  | j :: js, s :: sls, ss => setO js sls (ss.set j s)
  | _, _, ss => ss
theorem Stt.ofOuts {p : Addr} {xs : List V} {l : List D} (j : Nat) (S : Stt P g (E.outs (p :: ps)) H0 ss σ H) (hp : H p = some (.lst xs)) (dl : DenL P g (Rg g (E.outs (p :: ps)) σ ss) H xs l) (h0 : H0 p = none) (nM : ¬ g.M p) (nE : ¬ E.x p) (np : p ∉ ps) (nO : ¬ ownA σ ss p) :
    Stt P g (E.outs ps) H0 (ss.set j (.own (.lst l))) (σ.set j (some (.ref p))) H ∧ (∀ x, Rg g (E.outs ps) (σ.set j (some (.ref p))) (ss.set j (.own (.lst l))) x → Rg g (E.outs (p :: ps)) σ ss x) ∧ (∀ q, q ≠ p → ¬ ownA σ ss q → ¬ ownA (σ.set j (some (.ref p))) (ss.set j (.own (.lst l))) q) := by
  have ho : ∀ q, ownA (σ.set j (some (.ref p))) (ss.set j (.own (.lst l))) q → ownA σ ss q ∨ q = p := fun q ⟨i, d, h1, h2⟩ => by
    rcases set_get h1 with ⟨z, e⟩ | ⟨z, h1⟩
    · rcases set_get h2 with ⟨_, e2⟩ | ⟨q2, _⟩
      · cases e2; exact .inr rfl
      · exact (q2 z).elim
    · rw [get_set_ne z] at h2
      exact .inl ⟨i, d, h1, h2⟩
  have hs : ∀ x, Rg g (E.outs ps) (σ.set j (some (.ref p))) (ss.set j (.own (.lst l))) x → Rg g (E.outs (p :: ps)) σ ss x := fun x h => by
    rcases h with h | (h | h) | h
    · exact .inl h
    · exact .inr (.inl (.inl h))
    · exact .inr (.inl (.inr (List.mem_cons_of_mem _ h)))
    · rcases ho x h with h | h
      · exact .inr (.inr h)
      · exact .inr (.inl (.inr (by rw [h]; exact List.mem_cons_self)))
  refine ⟨⟨S.sg.sub hs, E.hz _ _ _ _ (fun a o n q t => ⟨q, fun r => n (hs a r)⟩) S.pin, S.grow, by rw [List.length_set, List.length_set]; exact S.len, fun i d' h => ?_, fun i d' h => ?_, fun i k d1 d2 x h1 h2 h3 h4 => ?_⟩, hs, fun q n no o => (ho q o).elim no n⟩
  · rcases set_get h with ⟨q, e⟩ | ⟨q, h⟩
    · cases e
    · obtain ⟨w, h1, h2⟩ := S.val i d' h
      exact ⟨w, by rw [get_set_ne q]; exact h1, Den.mv (Mv.sub hs) h2⟩
  · rcases set_get h with ⟨q, e⟩ | ⟨q, h⟩
    · cases e
      subst q
      have hl : i < σ.length := by
        have := (List.getElem?_eq_some_iff.mp h).1
        rw [List.length_set, S.len] at this
        exact this
      exact ⟨p, List.getElem?_set_self hl, h0, nM, fun z => z.elim nE np, .lst hp (DenL.mv (Mv.sub hs) dl)⟩
    · obtain ⟨p', h1, h2, h3, h4, h5⟩ := S.own i d' h
      exact ⟨p', by rw [get_set_ne q]; exact h1, h2, h3, fun z => h4 (z.elim .inl fun z => .inr (List.mem_cons_of_mem _ z)), h5.mv (Mv.sub hs) fun o z _ => z⟩
  · rcases set_get h1 with ⟨q, e⟩ | ⟨q, h1⟩
    · rcases set_get h2 with ⟨q', e'⟩ | ⟨q', h2⟩
      · rw [q, q']
      · rcases set_get h3 with ⟨_, e3⟩ | ⟨q3, _⟩
        · cases e3
          rw [get_set_ne q'] at h4
          exact (nO ⟨k, d2, h2, h4⟩).elim
        · exact (q3 q).elim
    · rcases set_get h2 with ⟨q', e'⟩ | ⟨q', h2⟩
      · rcases set_get h4 with ⟨_, e3⟩ | ⟨q3, _⟩
        · cases e3
          rw [get_set_ne q] at h3
          exact (nO ⟨i, d1, h1, h3⟩).elim
        · exact (q3 q').elim
      · rw [get_set_ne q] at h3
        rw [get_set_ne q'] at h4
        exact S.uniq i k d1 d2 x h1 h2 h3 h4
theorem stt_setO : ∀ (js : List Nat) {sls : List Sl} {vs : List V} {ps : List Addr} {σ : L2.St} {ss : SS}, Stt P g (E.outs ps) H0 ss σ H → OL P g (Rg g (E.outs ps) σ ss) H vs sls ps → js.length = sls.length → (∀ p ∈ ps, H0 p = none ∧ ¬ g.M p ∧ ¬ E.x p ∧ ¬ ownA σ ss p) →
    Stt P g E H0 (setO js sls ss) ((js.zip vs).foldl (fun s p => s.set p.1 (some p.2)) σ) H
  | [], sls, vs, ps, σ, ss, S, ol, hl, hp => by
    cases ol with
    | nil => rw [outs_nil] at S; exact S
    | v _ _ => cases hl
    | own _ _ _ _ => cases hl
  | j :: js, sls, vs, ps, σ, ss, S, ol, hl, hp => by
    cases ol with
    | nil => cases hl
    | @v v0 d0 _ _ _ n ol =>
      have hs : ∀ x, Rg g (E.outs ps) (σ.set j (some v0)) (ss.set j (.v d0)) x → Rg g (E.outs ps) σ ss x := fun x => Rg_setV (fun d z => by cases z)
      exact stt_setO js (S.set j n) (ol.mv (Mv.sub hs) fun _ _ z => z) (Nat.succ.inj hl) fun p hm => ⟨(hp p hm).1, (hp p hm).2.1, (hp p hm).2.2.1, fun z => (hp p hm).2.2.2 (ownA_setV (fun d z => by cases z) z)⟩
    | own h1 h2 h3 ol =>
      obtain ⟨a, b, c, d⟩ := hp _ List.mem_cons_self
      obtain ⟨S', hs, no⟩ := Stt.ofOuts j S h1 h2 a b c h3 d
      exact stt_setO js S' (ol.mv (Mv.sub hs) fun _ _ z => z) (Nat.succ.inj hl) fun p hm => ⟨(hp p (List.mem_cons_of_mem _ hm)).1, (hp p (List.mem_cons_of_mem _ hm)).2.1, (hp p (List.mem_cons_of_mem _ hm)).2.2.1, no p (fun z => h3 (by rw [← z]; exact hm)) (hp p (List.mem_cons_of_mem _ hm)).2.2.2⟩
def vAsgO (js : List Nat) (ta : TO3) : TSt := fun N ss => ta ss (fun sls => js.length = sls.length ∧ sls.length ≤ 100000 ∧ N.nx (setO js sls ss)) N.ex
theorem outs_in (S : Stt P g E H0 ss σ H) (hp : ∀ p ∈ ps, H p = none) : ∀ p ∈ ps, H0 p = none ∧ ¬ g.M p ∧ ¬ E.x p ∧ ¬ ownA σ ss p := fun p hm => by
  have f := S.fresh (hp p hm)
  exact ⟨S.fresh0 (hp p hm), fun z => f (.inl z), fun z => f (.inr (.inl z)), fun z => f (.inr (.inr z))⟩
/-- a, b, .. = ..: by a tuple -/
theorem s_asgO {tgs : List Expr} {js : List Nat} {tl : TO3} {kk k2 : Nat} {p2 p3 pos : Pos} (hc : X.calm = true) (h : NGs X tgs js) (ha : DAO X P g es tl) (hn : (assignEach tgs X.env).length = js.length := by rfl) (hst : (assignEach tgs X.env).findIdx? (·.1) = none := by rfl)
    (hs : swapsWithSole [.Tuple tgs kk p2] (.Tuple es k2 p3) pos.line X.env = pure false := by rfl) (hw : swappedStores [.Tuple tgs kk p2] (.Tuple es k2 p3) X.env = pure none := by rfl) : DS X P g (.Assign [.Tuple tgs kk p2] (.Tuple es k2 p3) pos) (vAsgO js tl) := by
  obtain ⟨gt, g1, g2⟩ := h.ex
  obtain ⟨ta, a1, a2⟩ := ha.ex
  refine DS.of (ps_asg (pe_tup a1) (pg_tup hc g1 hn hst) hs hw) fun σ H E H0 ss N S T h => ?_
  refine a2 σ H E H0 ss _ _ _ S T h fun vs H' ⟨sls, ps, S', e, hp, ol, q1, q3, q2⟩ => ?_
  refine ⟨by rw [ol.length]; exact line5 q3, fun t ht => ?_⟩
  refine ⟨t, vs, rfl, SqT.of upd_same, by rw [ol.length, q1], g2 vs σ _ _ (by rw [ol.length, q1]) ?_⟩
  have S2 : Stt P g (E.outs ps) H0 ss σ (upd H' t (.tup vs)) := S'.new ht
  exact ⟨_, stt_setO js S2 (ol.mv (Mv.ext (Ext.new ht) fun a w => Rg.W w) fun a xs z => by rw [upd_ne (ne_of_none z ht)]; exact z) q1 (outs_in S hp), q2⟩
/-- a, b = ..: plain local names -/
theorem s_parO {i j : Nat} {x y : Str} {a b : Expr} {px py pt : Pos} {kt k2 pt2} {tl : TO3} (hc : X.calm = true) (hN : X.N.Nodup) (ha : DAO X P g [a, b] tl) (hi : X.N[i]? = some x := by rfl) (hj : X.N[j]? = some y := by rfl) (hij : i ≠ j := by decide)
    (hx : X.env.scope.names.lookup x = some .local := by rfl) (hy : X.env.scope.names.lookup y = some .local := by rfl)
    (hw : swappedStores [.Tuple [.Name x px, .Name y py] kt pt] (.Tuple [a, b] k2 pt2) X.env = pure (some [x, y]) := by rfl)
    (hs : swapsWithSole [.Tuple [.Name x px, .Name y py] kt pt] (.Tuple [a, b] k2 pt2) pos.line X.env = pure false := by rfl) :
    DS X P g (.Assign [.Tuple [.Name x px, .Name y py] kt pt] (.Tuple [a, b] k2 pt2) pos) (vAsgO [i, j] tl) := by
  obtain ⟨ta, a1, a2⟩ := ha.ex
  refine DS.of (ps_par hc hN hi hj hij hx hy a1 hw hs) fun σ H E H0 ss N S T h => ?_
  refine a2 σ H E H0 ss _ _ _ S T h fun vs H' ⟨sls, ps, S', e, hp, ol, q1, q3, q2⟩ => ?_
  have S3 := stt_setO [i, j] S' ol q1 (outs_in S hp)
  have hl := ol.length
  rw [← q1] at hl
  match vs, hl, S3 with
  | [v, w], _, S3 => exact ⟨v, w, rfl, _, S3, q2⟩
theorem s_par3O {i j l : Nat} {x y z : Str} {a b c : Expr} {px py pz pt : Pos} {kt k2 pt2} {tl : TO3} (hc : X.calm = true) (hN : X.N.Nodup) (ha : DAO X P g [a, b, c] tl) (hi : X.N[i]? = some x := by rfl) (hj : X.N[j]? = some y := by rfl) (hl : X.N[l]? = some z := by rfl) (hij : i ≠ j := by decide) (hil : i ≠ l := by decide) (hjl : j ≠ l := by decide)
    (hx : X.env.scope.names.lookup x = some .local := by rfl) (hy : X.env.scope.names.lookup y = some .local := by rfl) (hz : X.env.scope.names.lookup z = some .local := by rfl)
    (hw : swappedStores [.Tuple [.Name x px, .Name y py, .Name z pz] kt pt] (.Tuple [a, b, c] k2 pt2) X.env = pure (some [x, y, z]) := by rfl)
    (hs : swapsWithSole [.Tuple [.Name x px, .Name y py, .Name z pz] kt pt] (.Tuple [a, b, c] k2 pt2) pos.line X.env = pure false := by rfl) :
    DS X P g (.Assign [.Tuple [.Name x px, .Name y py, .Name z pz] kt pt] (.Tuple [a, b, c] k2 pt2) pos) (vAsgO [i, j, l] tl) := by
  obtain ⟨ta, a1, a2⟩ := ha.ex
  refine DS.of (ps_par3 hc hN hi hj hl hij hil hjl hx hy hz a1 hw hs) fun σ H E H0 ss N S T h => ?_
  refine a2 σ H E H0 ss _ _ _ S T h fun vs H' ⟨sls, ps, S', e, hp, ol, q1, q3, q2⟩ => ?_
  have S3 := stt_setO [i, j, l] S' ol q1 (outs_in S hp)
  have hl := ol.length
  rw [← q1] at hl
  match vs, hl, S3 with
  | [u, v, w], _, S3 => exact ⟨u, v, w, rfl, _, S3, q2⟩
end
end DL

set_option maxRecDepth 100000
set_option maxHeartbeats 8000000
namespace K03
open PySem PySem.Spec PyProof.Rows L2 LamX NdefX DLX DL
def top (i : Nat) : Stmt := PySem.Challenge.pw_onebasis_k03_whole_rules_joined_and_clos.main.body.getD i (.Pass ⟨0, 0, 0, 0⟩)
abbrev s_BadNumber_init : Stmt := inClass (top 2) 0
abbrev s_BadRule_init : Stmt := inClass (top 3) 0
abbrev s_TooMany_init : Stmt := inClass (top 4) 0
abbrev s_is_number : Stmt := top 6
abbrev s_is_between : Stmt := top 7
abbrev s_is_list : Stmt := top 8
abbrev s_need_between : Stmt := top 9
abbrev s_is_prime : Stmt := top 14
abbrev s_legs_of : Stmt := top 15
abbrev s_is_table : Stmt := top 16
abbrev s_Rule_init : Stmt := inClass (top 17) 0
abbrev s_Rule_eq : Stmt := inClass (top 17) 1
abbrev s_need_rule : Stmt := top 18
abbrev s_index_of : Stmt := top 19
abbrev s_bits_at : Stmt := top 20
abbrev s_made : Stmt := top 21
abbrev s_at : Stmt := top 22
abbrev s_need_leg : Stmt := top 23
abbrev s_led : Stmt := top 24
abbrev s_turned : Stmt := top 25
abbrev s_need_two : Stmt := top 26
abbrev s_beside : Stmt := top 27
abbrev s_with_legs : Stmt := top 28
abbrev s_closed : Stmt := top 29
abbrev s_joined : Stmt := top 30
abbrev s_law_begun : Stmt := top 32
abbrev s_law_mixed : Stmt := top 33
abbrev s_law_take : Stmt := top 34
abbrev s_law_pick : Stmt := top 35
abbrev s_law_caught : Stmt := top 36
abbrev s_law_prime : Stmt := top 37
abbrev s_law_numbers : Stmt := top 38
abbrev s_law_bits : Stmt := top 39
abbrev s_law_number : Stmt := top 40
abbrev s_law_is_rule : Stmt := top 41
abbrev s_law_is_bad : Stmt := top 42
abbrev s_law_refused : Stmt := top 43
abbrev s_law : Stmt := top 44
structure MB (mg : Str → Option Value) : Prop where
  b_abs : mg "abs" = none
  b_int : mg "int" = none
  b_len : mg "len" = none
  b_range : mg "range" = none

variable {Pr : Program} {w : World} {K : PySem.W.Frag} {mg : Str → Option Value} {base : Heap} {P : Gl0}

/-! ### the draw -/
theorem mb {A B : Prop} : ∀ b : Bool, (b = true → A) → (b = false → B) → (match b with | true => A | false => B)
  | true, h, _ => h rfl
  | false, _, h => h rfl

def cMixed : Ctr := fun ds Q _ => ds = [.box 0] ∧ ∀ i : Int, Q (.int i)
def cTake : Ctr := fun ds Q _ => ∃ n : Int, ds = [.box 0, .int n] ∧ 0 < n ∧ n < 1073741824 ∧ ∀ k : Int, 0 ≤ k → k < n → Q (.int k)
def cPick : Ctr := fun ds Q _ => ∃ l : List D, ds = [.box 0, .lst l] ∧ l ≠ [] ∧ l.length < 1073741824 ∧ ∀ d ∈ l, Q d
theorem sc_begun : FnScope ["script", "grain", "large"] ["script"] (defScope s_law_begun) := ⟨rfl, rfl, rfl, by decide +kernel, rfl, by decide +kernel, by decide +kernel⟩
theorem sc_mixed : FnScope ["draw", "turn", "found", "great", "blend", "grain"] ["draw"] (defScope s_law_mixed) := ⟨rfl, rfl, rfl, by decide +kernel, rfl, by decide +kernel, by decide +kernel⟩
theorem sc_take : FnScope ["draw", "amount", "found"] ["draw", "amount"] (defScope s_law_take) := ⟨rfl, rfl, rfl, by decide +kernel, rfl, by decide +kernel, by decide +kernel⟩
theorem sc_pick : FnScope ["draw", "some"] ["draw", "some"] (defScope s_law_pick) := ⟨rfl, rfl, rfl, by decide +kernel, rfl, by decide +kernel, by decide +kernel⟩
theorem ok_mixed {f : Addr} {fd : FuncData} (F : L2.Fun K "_law_mixed" "_law_mixed" s_law_mixed f fd) (M : MB mg) : FnG Pr w K mg base (L2.CX Pr w) 2 f fd ["draw"] (spD P (gpD K) 1 cMixed) := by
  have nd := sc_mixed.nd
  refine fnD (k := 1) F sc_mixed (fun g hgp cdv A outer s H E hr hgd => (ss_cons (s_boxS 0 hgp num_turn hr.units (d_op o_add (d_boxI 0 hgp num_turn hr.units) d_int)) (ss_cons (s_par (i := 1) (j := 2) rfl nd (a_cons (d_callTy c_int rfl M.b_int (by first | rfl | decide +kernel) (a_cons (d_boxI 0 hgp num_turn hr.units) a_nil)) (a_cons d_int a_nil))) (ss_cons (s_for (passes_of rfl) rfl (i_seq (d_lst (a_cons d_int (a_cons d_int (a_cons d_int a_nil))))) (g_name 3 nd) (ss_cons (s_set 4 nd (d_op o_mod (d_op o_add (d_op o_mulA (d_var 1) d_int) (d_op o_div (d_var 3) d_int)) (d_var 3))) (ss_cons (s_for (passes_of rfl) rfl (i_cells 0 hgp hr.units) (g_name 5 nd) (ss_one (s_set 4 nd (d_op o_mod (d_op o_add (d_op o_mulA (d_var 4) d_int) (d_callTy c_int rfl M.b_int (by first | rfl | decide +kernel) (a_cons (d_var 5) a_nil))) (d_var 3))))) (ss_one (s_set 2 nd (d_op o_add (d_op o_mulA (d_var 2) d_int) (d_op o_mod (d_op o_pow (d_var 4) d_int) (d_var 3)))))))) (ss_one (s_ret (d_var 2))))))) ?_
  intro ds Qd Qx hl hc
  obtain ⟨rfl, hq⟩ := hc
  rw [show startS ["draw", "turn", "found", "great", "blend", "grain"] [D.box 0] = [.v (.box 0), .u, .u, .u, .u, .u] from rfl]
  dsimp only [DL.vAsg, DL.vFor, DL.vSeqI, DL.vNeg, DL.vPar, DL.vDct, DL.rMem, DL.vEnum, DL.vRepL, DL.vRepr, DL.rRepr, DL.vIsiT, DL.vCallK, DL.vLenS, DL.vRaiX, DL.vRai0, DL.vFld, DL.rMulA, DL.rEqO, DL.rNeO, DL.vTryAs, DL.vCallW, DL.vCallH, DL.vBorL, DL.vStar, DL.vRev, DL.rRev, DL.vZip, DL.items2, DL.seqOf, DL.vAsgO, DL.vNilO, DL.vConsO, DL.vOwnO, DL.setO, DL.rSumA, DL.vBoxI, DL.vBoxS, DL.vCells, DL.vPopOr, DL.vScr, DL.vV, DL.vC, DL.vOp, DL.isB, DL.vTest, DL.vAnd, DL.vOr, DL.vNot, DL.vAndV, DL.vOrV, DL.vNotV, DL.vIf, DL.isNon, DL.vIsN, DL.vNotN, DL.vNil, DL.vCons, DL.vTup, DL.vLst, DL.rAdd, DL.rSub, DL.rMul, DL.rInt, DL.rDiv, DL.rMod, DL.rPow, DL.rShl, DL.rLt, DL.rLe, DL.rGt, DL.rGe, DL.vChain, DL.rEqS, DL.rNeS, DL.rIx, DL.vIx, DL.vNoPart, DL.isI, DL.vPart, DL.rSl, DL.vSl, DL.vCB, DL.rLen, DL.rAbs, DL.rMax2, DL.rMin2, DL.rIntOf, DL.rListOf, DL.rTupleOf, DL.vNext, DL.vSeq, DL.vBreak, DL.vCont, DL.vNever, DL.vFrz, DL.vBor, DL.vBorT, DL.vSet, DL.vDrop, DL.vRet, DL.vRetN, DL.vIfS, DL.vNew, DL.vOwn, DL.isL, DL.isIn, DL.isOwnL, DL.vApp, DL.vSto, DL.gV, DL.gT, DL.vRng1, DL.vRng2, DL.vYes, DL.vLc, DL.vCall, DL.vAttr, DL.vIsi, DL.vMk0, DL.vMkX, endsD, endsI, startI, isInsA, putD, capS, List.getElem?_cons_zero, List.getElem?_cons_succ, List.set_cons_zero, List.set_cons_succ, frz, frz1, wipeS, setN, noOwn, DL.isNon, Bool.not_true, Bool.not_false, List.length_cons, List.length_nil, List.map]
  refine ⟨rfl, rfl, fun z => ⟨rfl, fun t => ?_⟩⟩
  refine ⟨by decide, fun i ss => ∃ (f : Int) (a b c : Sl), ss = [.v (.box 0), .v (.int t), .v (.int f), a, b, c], ⟨0, _, _, _, rfl⟩, ?_, ?_⟩
  · rintro i d ss hd ⟨f, a, b, c, rfl⟩
    obtain ⟨great, rfl, hg1, hg2⟩ : ∃ great : Int, d = .int great ∧ 0 < great ∧ great < 2147483648 := by
      have hi : i < 3 := (List.getElem?_eq_some_iff.mp hd).1
      match i, hi with
      | 0, _ => exact ⟨_, (Option.some.inj hd).symm, by decide, by decide⟩
      | 1, _ => exact ⟨_, (Option.some.inj hd).symm, by decide, by decide⟩
      | 2, _ => exact ⟨_, (Option.some.inj hd).symm, by decide, by decide⟩
    dsimp only [DL.vAsg, DL.vFor, DL.vSeqI, DL.vNeg, DL.vPar, DL.vDct, DL.rMem, DL.vEnum, DL.vRepL, DL.vRepr, DL.rRepr, DL.vIsiT, DL.vCallK, DL.vLenS, DL.vRaiX, DL.vRai0, DL.vFld, DL.rMulA, DL.rEqO, DL.rNeO, DL.vTryAs, DL.vCallW, DL.vCallH, DL.vBorL, DL.vStar, DL.vRev, DL.rRev, DL.vZip, DL.items2, DL.seqOf, DL.vAsgO, DL.vNilO, DL.vConsO, DL.vOwnO, DL.setO, DL.rSumA, DL.vBoxI, DL.vBoxS, DL.vCells, DL.vPopOr, DL.vScr, DL.vV, DL.vC, DL.vOp, DL.isB, DL.vTest, DL.vAnd, DL.vOr, DL.vNot, DL.vAndV, DL.vOrV, DL.vNotV, DL.vIf, DL.isNon, DL.vIsN, DL.vNotN, DL.vNil, DL.vCons, DL.vTup, DL.vLst, DL.rAdd, DL.rSub, DL.rMul, DL.rInt, DL.rDiv, DL.rMod, DL.rPow, DL.rShl, DL.rLt, DL.rLe, DL.rGt, DL.rGe, DL.vChain, DL.rEqS, DL.rNeS, DL.rIx, DL.vIx, DL.vNoPart, DL.isI, DL.vPart, DL.rSl, DL.vSl, DL.vCB, DL.rLen, DL.rAbs, DL.rMax2, DL.rMin2, DL.rIntOf, DL.rListOf, DL.rTupleOf, DL.vNext, DL.vSeq, DL.vBreak, DL.vCont, DL.vNever, DL.vFrz, DL.vBor, DL.vBorT, DL.vSet, DL.vDrop, DL.vRet, DL.vRetN, DL.vIfS, DL.vNew, DL.vOwn, DL.isL, DL.isIn, DL.isOwnL, DL.vApp, DL.vSto, DL.gV, DL.gT, DL.vRng1, DL.vRng2, DL.vYes, DL.vLc, DL.vCall, DL.vAttr, DL.vIsi, DL.vMk0, DL.vMkX, endsD, endsI, startI, isInsA, putD, capS, List.getElem?_cons_zero, List.getElem?_cons_succ, List.set_cons_zero, List.set_cons_succ, frz, frz1, wipeS, setN, noOwn, DL.isNon, Bool.not_true, Bool.not_false, List.length_cons, List.length_nil, List.map]
    have em : ∀ x : Int, 0 ≤ x % great ∧ x % great < great := fun x => ⟨Int.emod_nonneg _ (by omega), Int.emod_lt_of_pos _ hg1⟩
    refine ⟨.inr (by decide), by unfold CDiv; decide, hg1, rfl, fun ns hn => ⟨fun i ss => ∃ (bl : Int) (e : Sl), 0 ≤ bl ∧ bl < great ∧ ss = [.v (.box 0), .v (.int t), .v (.int f), .v (.int great), .v (.int bl), e], ⟨_, _, (em _).1, (em _).2, rfl⟩, ?_, ?_⟩⟩
    · rintro i d ss hd ⟨bl, e, h1, h2, rfl⟩
      rw [List.getElem?_map] at hd
      obtain ⟨y, _, rfl⟩ := Option.map_eq_some_iff.mp hd
      dsimp only [DL.vAsg, DL.vFor, DL.vSeqI, DL.vNeg, DL.vPar, DL.vDct, DL.rMem, DL.vEnum, DL.vRepL, DL.vRepr, DL.rRepr, DL.vIsiT, DL.vCallK, DL.vLenS, DL.vRaiX, DL.vRai0, DL.vFld, DL.rMulA, DL.rEqO, DL.rNeO, DL.vTryAs, DL.vCallW, DL.vCallH, DL.vBorL, DL.vStar, DL.vRev, DL.rRev, DL.vZip, DL.items2, DL.seqOf, DL.vAsgO, DL.vNilO, DL.vConsO, DL.vOwnO, DL.setO, DL.rSumA, DL.vBoxI, DL.vBoxS, DL.vCells, DL.vPopOr, DL.vScr, DL.vV, DL.vC, DL.vOp, DL.isB, DL.vTest, DL.vAnd, DL.vOr, DL.vNot, DL.vAndV, DL.vOrV, DL.vNotV, DL.vIf, DL.isNon, DL.vIsN, DL.vNotN, DL.vNil, DL.vCons, DL.vTup, DL.vLst, DL.rAdd, DL.rSub, DL.rMul, DL.rInt, DL.rDiv, DL.rMod, DL.rPow, DL.rShl, DL.rLt, DL.rLe, DL.rGt, DL.rGe, DL.vChain, DL.rEqS, DL.rNeS, DL.rIx, DL.vIx, DL.vNoPart, DL.isI, DL.vPart, DL.rSl, DL.vSl, DL.vCB, DL.rLen, DL.rAbs, DL.rMax2, DL.rMin2, DL.rIntOf, DL.rListOf, DL.rTupleOf, DL.vNext, DL.vSeq, DL.vBreak, DL.vCont, DL.vNever, DL.vFrz, DL.vBor, DL.vBorT, DL.vSet, DL.vDrop, DL.vRet, DL.vRetN, DL.vIfS, DL.vNew, DL.vOwn, DL.isL, DL.isIn, DL.isOwnL, DL.vApp, DL.vSto, DL.gV, DL.gT, DL.vRng1, DL.vRng2, DL.vYes, DL.vLc, DL.vCall, DL.vAttr, DL.vIsi, DL.vMk0, DL.vMkX, endsD, endsI, startI, isInsA, putD, capS, List.getElem?_cons_zero, List.getElem?_cons_succ, List.set_cons_zero, List.set_cons_succ, frz, frz1, wipeS, setN, noOwn, DL.isNon, Bool.not_true, Bool.not_false, List.length_cons, List.length_nil, List.map]
      exact ⟨.inr (by decide), hg1, _, _, (em _).1, (em _).2, rfl⟩
    · rintro ss ⟨bl, e, h1, h2, rfl⟩
      dsimp only [DL.vAsg, DL.vFor, DL.vSeqI, DL.vNeg, DL.vPar, DL.vDct, DL.rMem, DL.vEnum, DL.vRepL, DL.vRepr, DL.rRepr, DL.vIsiT, DL.vCallK, DL.vLenS, DL.vRaiX, DL.vRai0, DL.vFld, DL.rMulA, DL.rEqO, DL.rNeO, DL.vTryAs, DL.vCallW, DL.vCallH, DL.vBorL, DL.vStar, DL.vRev, DL.rRev, DL.vZip, DL.items2, DL.seqOf, DL.vAsgO, DL.vNilO, DL.vConsO, DL.vOwnO, DL.setO, DL.rSumA, DL.vBoxI, DL.vBoxS, DL.vCells, DL.vPopOr, DL.vScr, DL.vV, DL.vC, DL.vOp, DL.isB, DL.vTest, DL.vAnd, DL.vOr, DL.vNot, DL.vAndV, DL.vOrV, DL.vNotV, DL.vIf, DL.isNon, DL.vIsN, DL.vNotN, DL.vNil, DL.vCons, DL.vTup, DL.vLst, DL.rAdd, DL.rSub, DL.rMul, DL.rInt, DL.rDiv, DL.rMod, DL.rPow, DL.rShl, DL.rLt, DL.rLe, DL.rGt, DL.rGe, DL.vChain, DL.rEqS, DL.rNeS, DL.rIx, DL.vIx, DL.vNoPart, DL.isI, DL.vPart, DL.rSl, DL.vSl, DL.vCB, DL.rLen, DL.rAbs, DL.rMax2, DL.rMin2, DL.rIntOf, DL.rListOf, DL.rTupleOf, DL.vNext, DL.vSeq, DL.vBreak, DL.vCont, DL.vNever, DL.vFrz, DL.vBor, DL.vBorT, DL.vSet, DL.vDrop, DL.vRet, DL.vRetN, DL.vIfS, DL.vNew, DL.vOwn, DL.isL, DL.isIn, DL.isOwnL, DL.vApp, DL.vSto, DL.gV, DL.gT, DL.vRng1, DL.vRng2, DL.vYes, DL.vLc, DL.vCall, DL.vAttr, DL.vIsi, DL.vMk0, DL.vMkX, endsD, endsI, startI, isInsA, putD, capS, List.getElem?_cons_zero, List.getElem?_cons_succ, List.set_cons_zero, List.set_cons_succ, frz, frz1, wipeS, setN, noOwn, DL.isNon, Bool.not_true, Bool.not_false, List.length_cons, List.length_nil, List.map]
      exact ⟨.inr (by decide), ⟨by decide, by decide, by omega⟩, hg1, _, _, _, _, rfl⟩
  · rintro ss ⟨f, a, b, c, rfl⟩
    dsimp only [DL.vAsg, DL.vFor, DL.vSeqI, DL.vNeg, DL.vPar, DL.vDct, DL.rMem, DL.vEnum, DL.vRepL, DL.vRepr, DL.rRepr, DL.vIsiT, DL.vCallK, DL.vLenS, DL.vRaiX, DL.vRai0, DL.vFld, DL.rMulA, DL.rEqO, DL.rNeO, DL.vTryAs, DL.vCallW, DL.vCallH, DL.vBorL, DL.vStar, DL.vRev, DL.rRev, DL.vZip, DL.items2, DL.seqOf, DL.vAsgO, DL.vNilO, DL.vConsO, DL.vOwnO, DL.setO, DL.rSumA, DL.vBoxI, DL.vBoxS, DL.vCells, DL.vPopOr, DL.vScr, DL.vV, DL.vC, DL.vOp, DL.isB, DL.vTest, DL.vAnd, DL.vOr, DL.vNot, DL.vAndV, DL.vOrV, DL.vNotV, DL.vIf, DL.isNon, DL.vIsN, DL.vNotN, DL.vNil, DL.vCons, DL.vTup, DL.vLst, DL.rAdd, DL.rSub, DL.rMul, DL.rInt, DL.rDiv, DL.rMod, DL.rPow, DL.rShl, DL.rLt, DL.rLe, DL.rGt, DL.rGe, DL.vChain, DL.rEqS, DL.rNeS, DL.rIx, DL.vIx, DL.vNoPart, DL.isI, DL.vPart, DL.rSl, DL.vSl, DL.vCB, DL.rLen, DL.rAbs, DL.rMax2, DL.rMin2, DL.rIntOf, DL.rListOf, DL.rTupleOf, DL.vNext, DL.vSeq, DL.vBreak, DL.vCont, DL.vNever, DL.vFrz, DL.vBor, DL.vBorT, DL.vSet, DL.vDrop, DL.vRet, DL.vRetN, DL.vIfS, DL.vNew, DL.vOwn, DL.isL, DL.isIn, DL.isOwnL, DL.vApp, DL.vSto, DL.gV, DL.gT, DL.vRng1, DL.vRng2, DL.vYes, DL.vLc, DL.vCall, DL.vAttr, DL.vIsi, DL.vMk0, DL.vMkX, endsD, endsI, startI, isInsA, putD, capS, List.getElem?_cons_zero, List.getElem?_cons_succ, List.set_cons_zero, List.set_cons_succ, frz, frz1, wipeS, setN, noOwn, DL.isNon, Bool.not_true, Bool.not_false, List.length_cons, List.length_nil, List.map]
    exact hq f
theorem ok_take {f : Addr} {fd : FuncData} (F : L2.Fun K "_law_take" "_law_take" s_law_take f fd) (M : MB mg) (F__law_mixed : FD Pr w K mg base "_law_mixed" 2 ["draw"] (spD P (gpD K) 1 cMixed)) : FnG Pr w K mg base (L2.CX Pr w) 3 f fd ["draw", "amount"] (spD P (gpD K) 2 cTake) := by
  have nd := sc_take.nd
  refine fnD (k := 2) F sc_take (fun g hgp cdv A outer s H E hr hgd => (ss_cons (s_if (t_cmp (o_eqS hr.units) (d_boxI 0 hgp num_rest hr.units) d_int (by rfl)) (ss_one (s_boxS 0 hgp num_rest hr.units (d_popOr 0 hgp hr.units (d_callF F__law_mixed (hr.mono (by decide)) hgd rfl hgp (a_cons (d_var 0) a_nil))))) ss_nil) (ss_cons (s_set 2 nd (d_op o_mod (d_callTy c_int rfl M.b_int (by first | rfl | decide +kernel) (a_cons (d_boxI 0 hgp num_rest hr.units) a_nil)) (d_var 1))) (ss_cons (s_boxS 0 hgp num_rest hr.units (d_op o_div (d_callTy c_int rfl M.b_int (by first | rfl | decide +kernel) (a_cons (d_boxI 0 hgp num_rest hr.units) a_nil)) (d_var 1))) (ss_one (s_ret (d_var 2))))))) ?_
  intro ds Qd Qx hl hc
  obtain ⟨n, rfl, h0, h1, hq⟩ := hc
  rw [show startS ["draw", "amount", "found"] [D.box 0, D.int n] = [.v (.box 0), .v (.int n), .u] from rfl]
  dsimp only [DL.vAsg, DL.vFor, DL.vSeqI, DL.vNeg, DL.vPar, DL.vDct, DL.rMem, DL.vEnum, DL.vRepL, DL.vRepr, DL.rRepr, DL.vIsiT, DL.vCallK, DL.vLenS, DL.vRaiX, DL.vRai0, DL.vFld, DL.rMulA, DL.rEqO, DL.rNeO, DL.vTryAs, DL.vCallW, DL.vCallH, DL.vBorL, DL.vStar, DL.vRev, DL.rRev, DL.vZip, DL.items2, DL.seqOf, DL.vAsgO, DL.vNilO, DL.vConsO, DL.vOwnO, DL.setO, DL.rSumA, DL.vBoxI, DL.vBoxS, DL.vCells, DL.vPopOr, DL.vScr, DL.vV, DL.vC, DL.vOp, DL.isB, DL.vTest, DL.vAnd, DL.vOr, DL.vNot, DL.vAndV, DL.vOrV, DL.vNotV, DL.vIf, DL.isNon, DL.vIsN, DL.vNotN, DL.vNil, DL.vCons, DL.vTup, DL.vLst, DL.rAdd, DL.rSub, DL.rMul, DL.rInt, DL.rDiv, DL.rMod, DL.rPow, DL.rShl, DL.rLt, DL.rLe, DL.rGt, DL.rGe, DL.vChain, DL.rEqS, DL.rNeS, DL.rIx, DL.vIx, DL.vNoPart, DL.isI, DL.vPart, DL.rSl, DL.vSl, DL.vCB, DL.rLen, DL.rAbs, DL.rMax2, DL.rMin2, DL.rIntOf, DL.rListOf, DL.rTupleOf, DL.vNext, DL.vSeq, DL.vBreak, DL.vCont, DL.vNever, DL.vFrz, DL.vBor, DL.vBorT, DL.vSet, DL.vDrop, DL.vRet, DL.vRetN, DL.vIfS, DL.vNew, DL.vOwn, DL.isL, DL.isIn, DL.isOwnL, DL.vApp, DL.vSto, DL.gV, DL.gT, DL.vRng1, DL.vRng2, DL.vYes, DL.vLc, DL.vCall, DL.vAttr, DL.vIsi, DL.vMk0, DL.vMkX, endsD, endsI, startI, isInsA, putD, capS, List.getElem?_cons_zero, List.getElem?_cons_succ, List.set_cons_zero, List.set_cons_succ, frz, frz1, wipeS, setN, noOwn, DL.isNon, Bool.not_true, Bool.not_false, List.length_cons, List.length_nil, List.map, cMixed]
  have fin : ∀ z : Int, Qd (.int (z % n)) := fun z => hq _ (Int.emod_nonneg _ (by omega)) (Int.emod_lt_of_pos _ h0)
  refine ⟨rfl, fun z => ?_⟩
  cases decide (z = 0) with
  | true => exact ⟨rfl, rfl, fun _ => ⟨rfl, fun y => ⟨h0, rfl, rfl, fun y2 => ⟨⟨h0, h1⟩, fin _⟩⟩⟩, rfl, rfl, fun _ => ⟨rfl, fun y => ⟨h0, rfl, rfl, fun y2 => ⟨⟨h0, h1⟩, fin _⟩⟩⟩⟩
  | false => exact ⟨rfl, fun y => ⟨h0, rfl, rfl, fun y2 => ⟨⟨h0, h1⟩, fin _⟩⟩⟩
theorem ok_pick {f : Addr} {fd : FuncData} (F : L2.Fun K "_law_pick" "_law_pick" s_law_pick f fd) (M : MB mg) (F__law_take : FD Pr w K mg base "_law_take" 3 ["draw", "amount"] (spD P (gpD K) 2 cTake)) : FnG Pr w K mg base (L2.CX Pr w) 4 f fd ["draw", "some"] (spD P (gpD K) 2 cPick) := by
  have nd := sc_pick.nd
  refine fnD (k := 3) F sc_pick (fun g hgp cdv A outer s H E hr hgd => (ss_one (s_ret (d_ix (d_var 1) (d_callF F__law_take (hr.mono (by decide)) hgd rfl hgp (a_cons (d_var 0) (a_cons (d_callB c_len rfl M.b_len (by first | rfl | decide +kernel) (a_cons (d_var 1) a_nil)) a_nil))))))) ?_
  intro ds Qd Qx hl hc
  obtain ⟨l, rfl, h0, h1, hq⟩ := hc
  rw [show startS ["draw", "some"] [D.box 0, D.lst l] = [.v (.box 0), .v (.lst l)] from rfl]
  dsimp only [DL.vAsg, DL.vFor, DL.vSeqI, DL.vNeg, DL.vPar, DL.vDct, DL.rMem, DL.vEnum, DL.vRepL, DL.vRepr, DL.rRepr, DL.vIsiT, DL.vCallK, DL.vLenS, DL.vRaiX, DL.vRai0, DL.vFld, DL.rMulA, DL.rEqO, DL.rNeO, DL.vTryAs, DL.vCallW, DL.vCallH, DL.vBorL, DL.vStar, DL.vRev, DL.rRev, DL.vZip, DL.items2, DL.seqOf, DL.vAsgO, DL.vNilO, DL.vConsO, DL.vOwnO, DL.setO, DL.rSumA, DL.vBoxI, DL.vBoxS, DL.vCells, DL.vPopOr, DL.vScr, DL.vV, DL.vC, DL.vOp, DL.isB, DL.vTest, DL.vAnd, DL.vOr, DL.vNot, DL.vAndV, DL.vOrV, DL.vNotV, DL.vIf, DL.isNon, DL.vIsN, DL.vNotN, DL.vNil, DL.vCons, DL.vTup, DL.vLst, DL.rAdd, DL.rSub, DL.rMul, DL.rInt, DL.rDiv, DL.rMod, DL.rPow, DL.rShl, DL.rLt, DL.rLe, DL.rGt, DL.rGe, DL.vChain, DL.rEqS, DL.rNeS, DL.rIx, DL.vIx, DL.vNoPart, DL.isI, DL.vPart, DL.rSl, DL.vSl, DL.vCB, DL.rLen, DL.rAbs, DL.rMax2, DL.rMin2, DL.rIntOf, DL.rListOf, DL.rTupleOf, DL.vNext, DL.vSeq, DL.vBreak, DL.vCont, DL.vNever, DL.vFrz, DL.vBor, DL.vBorT, DL.vSet, DL.vDrop, DL.vRet, DL.vRetN, DL.vIfS, DL.vNew, DL.vOwn, DL.isL, DL.isIn, DL.isOwnL, DL.vApp, DL.vSto, DL.gV, DL.gT, DL.vRng1, DL.vRng2, DL.vYes, DL.vLc, DL.vCall, DL.vAttr, DL.vIsi, DL.vMk0, DL.vMkX, endsD, endsI, startI, isInsA, putD, capS, List.getElem?_cons_zero, List.getElem?_cons_succ, List.set_cons_zero, List.set_cons_succ, frz, frz1, wipeS, setN, noOwn, DL.isNon, Bool.not_true, Bool.not_false, List.length_cons, List.length_nil, List.map, cTake]
  have hpos : 0 < l.length := List.length_pos_iff.mpr h0
  refine ⟨rfl, (l.length : Int), rfl, by omega, by omega, fun k k0 k1 => ?_⟩
  rw [show atI l k = _ from atI_nat k0 k1]
  exact hq _ (List.getElem_mem _)
theorem ok_begun {f : Addr} {fd : FuncData} (F : L2.Fun K "_law_begun" "_law_begun" s_law_begun f fd) (M : MB mg) : FnG Pr w K mg base (L2.CX Pr w) 2 f fd ["script"] (spBegun K P) := by
  have nd := sc_begun.nd
  refine fnG_of (k := 1) F sc_begun (fun vs H Q E ⟨a, ns, e, _⟩ => by rw [e]; rfl) fun cdv A outer s H vs Q E hr hgd hsp => ?_
  obtain ⟨a, ns, rfl, hS, hlen, hT, hq⟩ := hsp
  refine ⟨_, pss_cons (ps_upN (P := P) (gp := gpS K) fun g hgp => (na_lc 2 (own := [("grain", 1)]) rfl nd (i_scr 0 hgp) (blkOk_by (by rfl)) (fun _ _ _ _ _ => (g_name 1 nd (js := [1]))) (fun _ _ _ _ _ => (ts_one (t_cmp o_ge (d_callB c_abs rfl M.b_abs (by first | rfl | decide +kernel) (a_cons (d_var 1) a_nil)) (d_op o_pow d_int d_int) (by rfl)))) (fun _ _ _ _ _ => (d_op o_sub (d_callB c_abs rfl M.b_abs (by first | rfl | decide +kernel) (a_cons (d_var 1) a_nil)) (d_op o_pow d_int d_int))))) (pss_one (ps_ret (pe_disp (pps_cons pe_str (pv 2) (pps_cons pe_str pe_int (pps_cons pe_str (pe_upN (P := P) (gp := gpS K) fun g hgp => (n_lc (own := [("grain", 1)]) rfl nd (i_scr 0 hgp) (blkOk_by (by rfl)) (fun _ _ _ _ _ => (g_name 1 nd (js := [1]))) (fun _ _ _ _ _ => ts_nil) (fun _ _ _ _ _ => (d_callB c_abs rfl M.b_abs (by first | rfl | decide +kernel) (a_cons (d_var 1) a_nil))))) (pps_cons pe_str pe_int pps_nil)))) rfl rfl (by simp) (by decide)))), ?_⟩
  refine begun_read hS hlen hT (fun g hg σ H E H0 ss Q Kv S ht k => ⟨g, hg, E, H0, ss, Q, S, ht, k⟩) (fun g hg σ H E H0 ss Q Kv S ht k => ⟨g, hg, E, H0, ss, Q, S, ht, k⟩) ?_ ?_ hq
  · rintro ss rfl
    refine ⟨by simp [noOwn], rfl, fun ns hn => ⟨by rw [List.length_map]; omega, fun i acc => ∃ ls : List Int, acc = ls.map (fun z : Int => D.int z) ∧ ls.length ≤ i, ⟨[], rfl, Nat.le_refl _⟩, ?_, ?_⟩⟩
    · rintro i d acc hd ⟨ls, rfl, hl⟩
      rw [List.getElem?_map] at hd
      obtain ⟨y, _, rfl⟩ := Option.map_eq_some_iff.mp hd
      dsimp only [DL.vAsg, DL.vFor, DL.vSeqI, DL.vNeg, DL.vPar, DL.vDct, DL.rMem, DL.vEnum, DL.vRepL, DL.vRepr, DL.rRepr, DL.vIsiT, DL.vCallK, DL.vLenS, DL.vRaiX, DL.vRai0, DL.vFld, DL.rMulA, DL.rEqO, DL.rNeO, DL.vTryAs, DL.vCallW, DL.vCallH, DL.vBorL, DL.vStar, DL.vRev, DL.rRev, DL.vZip, DL.items2, DL.seqOf, DL.vAsgO, DL.vNilO, DL.vConsO, DL.vOwnO, DL.setO, DL.rSumA, DL.vBoxI, DL.vBoxS, DL.vCells, DL.vPopOr, DL.vScr, DL.vV, DL.vC, DL.vOp, DL.isB, DL.vTest, DL.vAnd, DL.vOr, DL.vNot, DL.vAndV, DL.vOrV, DL.vNotV, DL.vIf, DL.isNon, DL.vIsN, DL.vNotN, DL.vNil, DL.vCons, DL.vTup, DL.vLst, DL.rAdd, DL.rSub, DL.rMul, DL.rInt, DL.rDiv, DL.rMod, DL.rPow, DL.rShl, DL.rLt, DL.rLe, DL.rGt, DL.rGe, DL.vChain, DL.rEqS, DL.rNeS, DL.rIx, DL.vIx, DL.vNoPart, DL.isI, DL.vPart, DL.rSl, DL.vSl, DL.vCB, DL.rLen, DL.rAbs, DL.rMax2, DL.rMin2, DL.rIntOf, DL.rListOf, DL.rTupleOf, DL.vNext, DL.vSeq, DL.vBreak, DL.vCont, DL.vNever, DL.vFrz, DL.vBor, DL.vBorT, DL.vSet, DL.vDrop, DL.vRet, DL.vRetN, DL.vIfS, DL.vNew, DL.vOwn, DL.isL, DL.isIn, DL.isOwnL, DL.vApp, DL.vSto, DL.gV, DL.gT, DL.vRng1, DL.vRng2, DL.vYes, DL.vLc, DL.vCall, DL.vAttr, DL.vIsi, DL.vMk0, DL.vMkX, endsD, endsI, startI, isInsA, putD, capS, List.getElem?_cons_zero, List.getElem?_cons_succ, List.set_cons_zero, List.set_cons_succ, frz, frz1, wipeS, setN, noOwn, DL.isNon, Bool.not_true, Bool.not_false, List.length_cons, List.length_nil, List.map]
      refine ⟨⟨by decide, by decide, by decide⟩, ?_⟩
      try dsimp only [DL.vAsg, DL.vFor, DL.vSeqI, DL.vNeg, DL.vPar, DL.vDct, DL.rMem, DL.vEnum, DL.vRepL, DL.vRepr, DL.rRepr, DL.vIsiT, DL.vCallK, DL.vLenS, DL.vRaiX, DL.vRai0, DL.vFld, DL.rMulA, DL.rEqO, DL.rNeO, DL.vTryAs, DL.vCallW, DL.vCallH, DL.vBorL, DL.vStar, DL.vRev, DL.rRev, DL.vZip, DL.items2, DL.seqOf, DL.vAsgO, DL.vNilO, DL.vConsO, DL.vOwnO, DL.setO, DL.rSumA, DL.vBoxI, DL.vBoxS, DL.vCells, DL.vPopOr, DL.vScr, DL.vV, DL.vC, DL.vOp, DL.isB, DL.vTest, DL.vAnd, DL.vOr, DL.vNot, DL.vAndV, DL.vOrV, DL.vNotV, DL.vIf, DL.isNon, DL.vIsN, DL.vNotN, DL.vNil, DL.vCons, DL.vTup, DL.vLst, DL.rAdd, DL.rSub, DL.rMul, DL.rInt, DL.rDiv, DL.rMod, DL.rPow, DL.rShl, DL.rLt, DL.rLe, DL.rGt, DL.rGe, DL.vChain, DL.rEqS, DL.rNeS, DL.rIx, DL.vIx, DL.vNoPart, DL.isI, DL.vPart, DL.rSl, DL.vSl, DL.vCB, DL.rLen, DL.rAbs, DL.rMax2, DL.rMin2, DL.rIntOf, DL.rListOf, DL.rTupleOf, DL.vNext, DL.vSeq, DL.vBreak, DL.vCont, DL.vNever, DL.vFrz, DL.vBor, DL.vBorT, DL.vSet, DL.vDrop, DL.vRet, DL.vRetN, DL.vIfS, DL.vNew, DL.vOwn, DL.isL, DL.isIn, DL.isOwnL, DL.vApp, DL.vSto, DL.gV, DL.gT, DL.vRng1, DL.vRng2, DL.vYes, DL.vLc, DL.vCall, DL.vAttr, DL.vIsi, DL.vMk0, DL.vMkX, endsD, endsI, startI, isInsA, putD, capS, List.getElem?_cons_zero, List.getElem?_cons_succ, List.set_cons_zero, List.set_cons_succ, frz, frz1, wipeS, setN, noOwn, DL.isNon, Bool.not_true, Bool.not_false, List.length_cons, List.length_nil, List.map]
      refine ⟨trivial, mb _ (fun _ => ?_) (fun _ => ?_)⟩
      · try dsimp only [DL.vAsg, DL.vFor, DL.vSeqI, DL.vNeg, DL.vPar, DL.vDct, DL.rMem, DL.vEnum, DL.vRepL, DL.vRepr, DL.rRepr, DL.vIsiT, DL.vCallK, DL.vLenS, DL.vRaiX, DL.vRai0, DL.vFld, DL.rMulA, DL.rEqO, DL.rNeO, DL.vTryAs, DL.vCallW, DL.vCallH, DL.vBorL, DL.vStar, DL.vRev, DL.rRev, DL.vZip, DL.items2, DL.seqOf, DL.vAsgO, DL.vNilO, DL.vConsO, DL.vOwnO, DL.setO, DL.rSumA, DL.vBoxI, DL.vBoxS, DL.vCells, DL.vPopOr, DL.vScr, DL.vV, DL.vC, DL.vOp, DL.isB, DL.vTest, DL.vAnd, DL.vOr, DL.vNot, DL.vAndV, DL.vOrV, DL.vNotV, DL.vIf, DL.isNon, DL.vIsN, DL.vNotN, DL.vNil, DL.vCons, DL.vTup, DL.vLst, DL.rAdd, DL.rSub, DL.rMul, DL.rInt, DL.rDiv, DL.rMod, DL.rPow, DL.rShl, DL.rLt, DL.rLe, DL.rGt, DL.rGe, DL.vChain, DL.rEqS, DL.rNeS, DL.rIx, DL.vIx, DL.vNoPart, DL.isI, DL.vPart, DL.rSl, DL.vSl, DL.vCB, DL.rLen, DL.rAbs, DL.rMax2, DL.rMin2, DL.rIntOf, DL.rListOf, DL.rTupleOf, DL.vNext, DL.vSeq, DL.vBreak, DL.vCont, DL.vNever, DL.vFrz, DL.vBor, DL.vBorT, DL.vSet, DL.vDrop, DL.vRet, DL.vRetN, DL.vIfS, DL.vNew, DL.vOwn, DL.isL, DL.isIn, DL.isOwnL, DL.vApp, DL.vSto, DL.gV, DL.gT, DL.vRng1, DL.vRng2, DL.vYes, DL.vLc, DL.vCall, DL.vAttr, DL.vIsi, DL.vMk0, DL.vMkX, endsD, endsI, startI, isInsA, putD, capS, List.getElem?_cons_zero, List.getElem?_cons_succ, List.set_cons_zero, List.set_cons_succ, frz, frz1, wipeS, setN, noOwn, DL.isNon, Bool.not_true, Bool.not_false, List.length_cons, List.length_nil, List.map]
        exact ⟨⟨by decide, by decide, by decide⟩, ls ++ [_], by rw [List.map_append]; rfl, by rw [List.length_append]; exact Nat.succ_le_succ hl⟩
      · exact ⟨ls, rfl, by omega⟩
    · rintro acc ⟨ls, rfl, hl⟩
      rw [List.length_map] at hl
      exact ⟨ls, rfl, by omega⟩
  · rintro ss rfl
    refine ⟨by simp [noOwn], rfl, fun ns hn => ⟨by rw [List.length_map]; omega, fun i acc => ∃ ls : List Int, acc = ls.map (fun z : Int => D.int z) ∧ ls.length ≤ i, ⟨[], rfl, Nat.le_refl _⟩, ?_, ?_⟩⟩
    · rintro i d acc hd ⟨ls, rfl, hl⟩
      rw [List.getElem?_map] at hd
      obtain ⟨y, _, rfl⟩ := Option.map_eq_some_iff.mp hd
      dsimp only [DL.vAsg, DL.vFor, DL.vSeqI, DL.vNeg, DL.vPar, DL.vDct, DL.rMem, DL.vEnum, DL.vRepL, DL.vRepr, DL.rRepr, DL.vIsiT, DL.vCallK, DL.vLenS, DL.vRaiX, DL.vRai0, DL.vFld, DL.rMulA, DL.rEqO, DL.rNeO, DL.vTryAs, DL.vCallW, DL.vCallH, DL.vBorL, DL.vStar, DL.vRev, DL.rRev, DL.vZip, DL.items2, DL.seqOf, DL.vAsgO, DL.vNilO, DL.vConsO, DL.vOwnO, DL.setO, DL.rSumA, DL.vBoxI, DL.vBoxS, DL.vCells, DL.vPopOr, DL.vScr, DL.vV, DL.vC, DL.vOp, DL.isB, DL.vTest, DL.vAnd, DL.vOr, DL.vNot, DL.vAndV, DL.vOrV, DL.vNotV, DL.vIf, DL.isNon, DL.vIsN, DL.vNotN, DL.vNil, DL.vCons, DL.vTup, DL.vLst, DL.rAdd, DL.rSub, DL.rMul, DL.rInt, DL.rDiv, DL.rMod, DL.rPow, DL.rShl, DL.rLt, DL.rLe, DL.rGt, DL.rGe, DL.vChain, DL.rEqS, DL.rNeS, DL.rIx, DL.vIx, DL.vNoPart, DL.isI, DL.vPart, DL.rSl, DL.vSl, DL.vCB, DL.rLen, DL.rAbs, DL.rMax2, DL.rMin2, DL.rIntOf, DL.rListOf, DL.rTupleOf, DL.vNext, DL.vSeq, DL.vBreak, DL.vCont, DL.vNever, DL.vFrz, DL.vBor, DL.vBorT, DL.vSet, DL.vDrop, DL.vRet, DL.vRetN, DL.vIfS, DL.vNew, DL.vOwn, DL.isL, DL.isIn, DL.isOwnL, DL.vApp, DL.vSto, DL.gV, DL.gT, DL.vRng1, DL.vRng2, DL.vYes, DL.vLc, DL.vCall, DL.vAttr, DL.vIsi, DL.vMk0, DL.vMkX, endsD, endsI, startI, isInsA, putD, capS, List.getElem?_cons_zero, List.getElem?_cons_succ, List.set_cons_zero, List.set_cons_succ, frz, frz1, wipeS, setN, noOwn, DL.isNon, Bool.not_true, Bool.not_false, List.length_cons, List.length_nil, List.map]
      exact ⟨ls ++ [_], by rw [List.map_append]; rfl, by rw [List.length_append]; exact Nat.succ_le_succ hl⟩
    · rintro acc ⟨ls, rfl, hl⟩
      rw [List.length_map] at hl
      exact ⟨ls, rfl, by omega⟩

end K03

set_option maxRecDepth 100000
set_option maxHeartbeats 8000000
namespace K03
open PySem PySem.Spec PyProof.Rows L2 LamX NdefX DLX DL
variable {Pr : Program} {w : World} {K : PySem.W.Frag} {mg : Str → Option Value} {base : Heap} {P : Gl0}
structure MC (Pr : Program) (w : World) (K : PySem.W.Frag) (mg : Str → Option Value) (base : Heap) (C : Nat → Addr) : Prop where
  b_abs : mg "abs" = none
  b_all : mg "all" = none
  b_bool : mg "bool" = none
  b_int : mg "int" = none
  b_isinstance : mg "isinstance" = none
  b_len : mg "len" = none
  b_list : mg "list" = none
  b_max : mg "max" = none
  b_min : mg "min" = none
  b_range : mg "range" = none
  b_repr : mg "repr" = none
  b_sum : mg "sum" = none
  b_tuple : mg "tuple" = none
  b_zip : mg "zip" = none
  c_BasisError : mg "BasisError" = some (.ref (C 0))
  c_BadNumber : mg "BadNumber" = some (.ref (C 1))
  c_BadRule : mg "BadRule" = some (.ref (C 2))
  c_TooMany : mg "TooMany" = some (.ref (C 3))
  c_Rule : mg "Rule" = some (.ref (C 4))
  e_BasisError : ExcK K (C 0) (C 0)
  x_BasisError : PySem.W.excIn K (C 0) [.type "ValueError", .type "Exception", .type "BaseException", .type "object"] "ValueError.__new__" = true
  k_BasisError : PySem.W.keepIn K (.ref (C 0)) = true
  e_BadNumber : ExcK K (C 0) (C 1)
  i_BadNumber : OexD Pr w K mg base (C 1) "part" "part"
  a_BadNumber_part : PySem.W.findIn K (.ref (C 1)) "part" = some none
  e_BadRule : ExcK K (C 0) (C 2)
  i_BadRule : OexD Pr w K mg base (C 2) "part" "part"
  a_BadRule_part : PySem.W.findIn K (.ref (C 2)) "part" = some none
  e_TooMany : ExcK K (C 0) (C 3)
  i_TooMany : OexD Pr w K mg base (C 3) "most" "most"
  a_TooMany_most : PySem.W.findIn K (.ref (C 3)) "most" = some none
  o_Rule : InsK K (C 4)
  a_Rule_prime : PySem.W.findIn K (.ref (C 4)) "prime" = some none
  a_Rule_legs : PySem.W.findIn K (.ref (C 4)) "legs" = some none
  a_Rule_table : PySem.W.findIn K (.ref (C 4)) "table" = some none
  m_LEAST_PRIME : ∃ t, mg "LEAST_PRIME" = some (.int 3 t)
  m_MOST_PRIME : ∃ t, mg "MOST_PRIME" = some (.int 97 t)
  m_MOST_LEGS : ∃ t, mg "MOST_LEGS" = some (.int 8 t)
  inj : ∀ i j, i < 5 → j < 5 → C i = C j → i = j
  og : PySem.W.specialIn K (.builtin "object.__class__") "__get__" = some (some (.builtin "getset_descriptor.__get__"))
  ot : PySem.W.takesIn K (.builtin "object.__class__") = some true
def excP (C : Nat → Addr) (c : Addr) : Prop := c = C 0 ∨ c = C 1 ∨ c = C 2 ∨ c = C 3
def insP (C : Nat → Addr) (c : Addr) : Prop := c = C 4
def nm_led : Nat → Nat → Str := fun _ _ => ("led" ++ ".<locals>.") ++ "work"
def nm_beside : Nat → Nat → Str := fun _ _ => ("beside" ++ ".<locals>.") ++ "<lambda>"
def nm_closed : Nat → Nat → Str := fun _ _ => ("closed" ++ ".<locals>.") ++ "work"
def nm_joined : Nat → Nat → Str := fun _ _ => ("joined" ++ ".<locals>.") ++ "work"
def nm__law_refused : Nat → Nat → Str := fun _ _ => ("_law_refused" ++ ".<locals>.") ++ "<lambda>"
def nm_law : Nat → Nat → Str := fun _ _ => ("law" ++ ".<locals>.") ++ "<lambda>"
def wordsP : Nat → Option CloS
  | 0 => some (defAt ("led" ++ ".<locals>.") s_led [0])
  | 1 => some (lamAt ("beside" ++ ".<locals>.") s_beside [2] 0 [3])
  | 2 => some (defAt ("closed" ++ ".<locals>.") s_closed [4])
  | 3 => some (defAt ("joined" ++ ".<locals>.") s_joined [7])
  | 4 => some (lamAt ("_law_refused" ++ ".<locals>.") s_law_refused [1] 0 [0, 0])
  | 5 => some (lamAt ("_law_refused" ++ ".<locals>.") s_law_refused [1] 0 [1, 0])
  | 6 => some (lamAt ("_law_refused" ++ ".<locals>.") s_law_refused [1] 0 [2, 0])
  | 7 => some (lamAt ("_law_refused" ++ ".<locals>.") s_law_refused [1] 0 [3, 0])
  | 8 => some (lamAt ("_law_refused" ++ ".<locals>.") s_law_refused [1] 0 [4, 0])
  | 9 => some (lamAt ("_law_refused" ++ ".<locals>.") s_law_refused [1] 0 [5, 0])
  | 10 => some (lamAt ("_law_refused" ++ ".<locals>.") s_law_refused [1] 0 [6, 0])
  | 11 => some (lamAt ("_law_refused" ++ ".<locals>.") s_law_refused [1] 0 [7, 0])
  | 12 => some (lamAt ("_law_refused" ++ ".<locals>.") s_law_refused [1] 0 [8, 0])
  | 13 => some (lamAt ("_law_refused" ++ ".<locals>.") s_law_refused [2, 1] 0 [0, 0])
  | 14 => some (lamAt ("_law_refused" ++ ".<locals>.") s_law_refused [2, 1] 0 [1, 0])
  | 15 => some (lamAt ("_law_refused" ++ ".<locals>.") s_law_refused [2, 1] 0 [2, 0])
  | 16 => some (lamAt ("_law_refused" ++ ".<locals>.") s_law_refused [2, 1] 0 [3, 0])
  | 17 => some (lamAt ("_law_refused" ++ ".<locals>.") s_law_refused [2, 1] 0 [4, 0])
  | 18 => some (lamAt ("law" ++ ".<locals>.") s_law [1, 8] 0 [0])
  | 19 => some (lamAt ("law" ++ ".<locals>.") s_law [1, 8] 0 [1])
  | _ => none
def PP (K : PySem.W.Frag) (C tbs : Nat → Addr) : Gl0 where
  T := [(tbs 0, nm_led), (tbs 1, nm_beside), (tbs 2, nm_closed), (tbs 3, nm_joined), (tbs 4, nm__law_refused), (tbs 5, nm_law)]
  S := wordsP
  insC := insP C
  excC := excP C
  attr := fun c f => PySem.W.findIn K (.ref c) f = some none
  isa := PySem.W.kitOne K
  clsU := fun _ => False
  fnv := fun _ _ => False
variable {C tbs : Nat → Addr}
theorem MC.exc (M : MC Pr w K mg base C) : ∀ c, excP C c → ExcK K (C 0) c := fun c h => by
  unfold excP at h
  rcases h with rfl | rfl | rfl | rfl
  · exact M.e_BasisError
  · exact M.e_BadNumber
  · exact M.e_BadRule
  · exact M.e_TooMany
theorem MC.ins (M : MC Pr w K mg base C) : ∀ c, insP C c → InsK K c := fun c h => by
  unfold insP at h
  rcases h with rfl
  · exact M.o_Rule
theorem txt (M : MC Pr w K mg base C) : Txt K (PP K C tbs) where
  isa := fun _ _ _ h => h
  ins := fun c h => ⟨(M.ins c h).cls, (M.ins c h).cl, by rw [(M.ins c h).mroIn]; simp⟩
  exc := fun c h => ⟨(M.exc c h).xf, (M.exc c h).exc M.og M.ot⟩
  attr := fun _ _ h => h
  og := M.og
  ot := M.ot

/-! ### what is caught -/
def caughtX (exc : Addr → Prop) (Q : D → Prop) (Qx : Err → Prop) : Err → Prop := fun e => match isaP exc e.C with
  | some true => Q (.exc e.C e.fs)
  | some false => Qx e
  | none => False
theorem caught_yes {exc : Addr → Prop} {Q : D → Prop} {Qx : Err → Prop} {c : Addr} {fs : List (Str × D)} (h : exc c) (q : Q (.exc c fs)) : caughtX exc Q Qx ⟨c, fs⟩ := by
  unfold caughtX
  dsimp only
  rw [isaP_at h]
  exact q
def cCaught (exc : Addr → Prop) : CtrH := fun ap ds Q Qx => ∃ d, ds = [d] ∧ isFn d = true ∧ ap d [] (fun _ => Q .non) (caughtX exc Q Qx)

end K03

set_option maxRecDepth 100000
set_option maxHeartbeats 8000000
namespace K03
open PySem PySem.Spec PyProof.Rows L2 LamX NdefX DLX DL
variable {Pr : Program} {w : World} {K : PySem.W.Frag} {mg : Str → Option Value} {base : Heap} {P : Gl0}
variable {C tbs : Nat → Addr}
/-! ### kinds -/
def isNum : D → Bool
  | .int _ => true
  | _ => false
def c_is_number (C : Nat → Addr) : Ctr := fun ds Q _ => ∃ d n, ds = [d] ∧ tyS d = some n ∧ Q (.bl (isNum d))
theorem isNum_eq {d : D} {n : String} (h : tyS d = some n) : (subT n "int" = true → subT n "bool" = !isNum d) ∧ (subT n "int" = false → isNum d = false) := by
  cases d <;> first | (cases h; simp [subT, isNum]; done) | cases h
theorem sc_is_number : FnScope ["thing"] ["thing"] (defScope s_is_number) := ⟨rfl, rfl, rfl, by decide +kernel, rfl, by decide +kernel, by decide +kernel⟩
theorem ok_is_number {f : Addr} {fd : FuncData} (F : L2.Fun K "is_number" "is_number" s_is_number f fd) (M : MC Pr w K mg base C)  : FnG Pr w K mg base (L2.CX Pr w) 1 f fd ["thing"] (spD (PP K C tbs) (fun _ => True) 1 (c_is_number C)) := by
  have nd := sc_is_number.nd
  have T := txt (tbs := tbs) M
  refine fnD (k := 0) F sc_is_number (fun g hgp cdv A outer s H E hr hgd => (ss_one (s_ret (d_and (d_isi T rfl M.b_isinstance (d_var 0) rfl (.ty M.b_int (by first | rfl | decide +kernel) (by decide))) (d_one (d_not (d_isi T rfl M.b_isinstance (d_var 0) rfl (.ty M.b_bool (by first | rfl | decide +kernel) (by decide))))))))) ?_
  intro ds Qd Qx hl hc
  obtain ⟨d, n, rfl, hn, hq⟩ := hc
  rw [show startS ["thing"] [d] = [.v d] from rfl]
  dsimp only [DL.vAsg, DL.vFor, DL.vSeqI, DL.vNeg, DL.vPar, DL.vDct, DL.rMem, DL.vEnum, DL.vRepL, DL.vRepr, DL.rRepr, DL.vIsiT, DL.vCallK, DL.vLenS, DL.vRaiX, DL.vRai0, DL.vFld, DL.rMulA, DL.rEqO, DL.rNeO, DL.vTryAs, DL.vCallW, DL.vCallH, DL.vBorL, DL.vStar, DL.vRev, DL.rRev, DL.vZip, DL.items2, DL.seqOf, DL.vAsgO, DL.vNilO, DL.vConsO, DL.vOwnO, DL.setO, DL.rSumA, DL.vBoxI, DL.vBoxS, DL.vCells, DL.vPopOr, DL.vScr, DL.vV, DL.vC, DL.vOp, DL.isB, DL.vTest, DL.vAnd, DL.vOr, DL.vNot, DL.vAndV, DL.vOrV, DL.vNotV, DL.vIf, DL.isNon, DL.vIsN, DL.vNotN, DL.vNil, DL.vCons, DL.vTup, DL.vLst, DL.rAdd, DL.rSub, DL.rMul, DL.rInt, DL.rDiv, DL.rMod, DL.rPow, DL.rShl, DL.rLt, DL.rLe, DL.rGt, DL.rGe, DL.vChain, DL.rEqS, DL.rNeS, DL.rIx, DL.vIx, DL.vNoPart, DL.isI, DL.vPart, DL.rSl, DL.vSl, DL.vCB, DL.rLen, DL.rAbs, DL.rMax2, DL.rMin2, DL.rIntOf, DL.rListOf, DL.rTupleOf, DL.vNext, DL.vSeq, DL.vBreak, DL.vCont, DL.vNever, DL.vFrz, DL.vBor, DL.vBorT, DL.vSet, DL.vDrop, DL.vRet, DL.vRetN, DL.vIfS, DL.vNew, DL.vOwn, DL.isL, DL.isIn, DL.isOwnL, DL.vApp, DL.vSto, DL.gV, DL.gT, DL.vRng1, DL.vRng2, DL.vYes, DL.vLc, DL.vCall, DL.vAttr, DL.vIsi, DL.vMk0, DL.vMkX, endsD, endsI, startI, isInsA, putD, capS, List.getElem?_cons_zero, List.getElem?_cons_succ, List.set_cons_zero, List.set_cons_succ, frz, frz1, wipeS, setN, noOwn, DL.isNon, Bool.not_true, Bool.not_false, List.length_cons, List.length_nil, List.map]
  refine isi_SS rfl hn (by simp) (mb _ (fun h => isi_SS rfl hn (by simp) ?_) (fun h => ?_))
  · rw [(isNum_eq hn).1 h, Bool.not_not]
    exact hq
  · rw [(isNum_eq hn).2 h] at hq
    exact hq
def isBetw (d : D) (lo hi : Int) : Bool := match d with
  | .int i => decide (lo ≤ i) && decide (i ≤ hi)
  | _ => false
theorem isBetw_no {d : D} {lo hi : Int} (h : isNum d = false) : isBetw d lo hi = false := by
  cases d <;> first | rfl | cases h
def c_is_between (C : Nat → Addr) : Ctr := fun ds Q _ => ∃ d n lo hi, ds = [d, .int lo, .int hi] ∧ tyS d = some n ∧ Q (.bl (isBetw d lo hi))
theorem sc_is_between : FnScope ["thing", "low", "high"] ["thing", "low", "high"] (defScope s_is_between) := ⟨rfl, rfl, rfl, by decide +kernel, rfl, by decide +kernel, by decide +kernel⟩
theorem ok_is_between {f : Addr} {fd : FuncData} (F : L2.Fun K "is_between" "is_between" s_is_between f fd) (M : MC Pr w K mg base C) (F_is_number : FD Pr w K mg base "is_number" 1 ["thing"] (spD (PP K C tbs) (fun _ => True) 1 (c_is_number C))) : FnG Pr w K mg base (L2.CX Pr w) 2 f fd ["thing", "low", "high"] (spD (PP K C tbs) (fun _ => True) 3 (c_is_between C)) := by
  have nd := sc_is_between.nd
  have T := txt (tbs := tbs) M
  refine fnD (k := 1) F sc_is_between (fun g hgp cdv A outer s H E hr hgd => (ss_one (s_ret (d_and (d_callF F_is_number (hr.mono (by decide)) hgd rfl trivial (a_cons (d_var 0) a_nil)) (d_one (d_chain o_le o_le (d_var 1) (d_var 0) (d_var 2))))))) ?_
  intro ds Qd Qx hl hc
  obtain ⟨d, n, lo, hi, rfl, hn, hq⟩ := hc
  rw [show startS ["thing", "low", "high"] [d, .int lo, .int hi] = [.v d, .v (.int lo), .v (.int hi)] from rfl]
  dsimp only [DL.vAsg, DL.vFor, DL.vSeqI, DL.vNeg, DL.vPar, DL.vDct, DL.rMem, DL.vEnum, DL.vRepL, DL.vRepr, DL.rRepr, DL.vIsiT, DL.vCallK, DL.vLenS, DL.vRaiX, DL.vRai0, DL.vFld, DL.rMulA, DL.rEqO, DL.rNeO, DL.vTryAs, DL.vCallW, DL.vCallH, DL.vBorL, DL.vStar, DL.vRev, DL.rRev, DL.vZip, DL.items2, DL.seqOf, DL.vAsgO, DL.vNilO, DL.vConsO, DL.vOwnO, DL.setO, DL.rSumA, DL.vBoxI, DL.vBoxS, DL.vCells, DL.vPopOr, DL.vScr, DL.vV, DL.vC, DL.vOp, DL.isB, DL.vTest, DL.vAnd, DL.vOr, DL.vNot, DL.vAndV, DL.vOrV, DL.vNotV, DL.vIf, DL.isNon, DL.vIsN, DL.vNotN, DL.vNil, DL.vCons, DL.vTup, DL.vLst, DL.rAdd, DL.rSub, DL.rMul, DL.rInt, DL.rDiv, DL.rMod, DL.rPow, DL.rShl, DL.rLt, DL.rLe, DL.rGt, DL.rGe, DL.vChain, DL.rEqS, DL.rNeS, DL.rIx, DL.vIx, DL.vNoPart, DL.isI, DL.vPart, DL.rSl, DL.vSl, DL.vCB, DL.rLen, DL.rAbs, DL.rMax2, DL.rMin2, DL.rIntOf, DL.rListOf, DL.rTupleOf, DL.vNext, DL.vSeq, DL.vBreak, DL.vCont, DL.vNever, DL.vFrz, DL.vBor, DL.vBorT, DL.vSet, DL.vDrop, DL.vRet, DL.vRetN, DL.vIfS, DL.vNew, DL.vOwn, DL.isL, DL.isIn, DL.isOwnL, DL.vApp, DL.vSto, DL.gV, DL.gT, DL.vRng1, DL.vRng2, DL.vYes, DL.vLc, DL.vCall, DL.vAttr, DL.vIsi, DL.vMk0, DL.vMkX, endsD, endsI, startI, isInsA, putD, capS, List.getElem?_cons_zero, List.getElem?_cons_succ, List.set_cons_zero, List.set_cons_succ, frz, frz1, wipeS, setN, noOwn, DL.isNon, Bool.not_true, Bool.not_false, List.length_cons, List.length_nil, List.map, c_is_number]
  refine ⟨rfl, d, n, rfl, hn, mb _ (fun h => ?_) (fun h => ?_)⟩
  · cases d with
    | int i =>
      dsimp only [DL.vAsg, DL.vFor, DL.vSeqI, DL.vNeg, DL.vPar, DL.vDct, DL.rMem, DL.vEnum, DL.vRepL, DL.vRepr, DL.rRepr, DL.vIsiT, DL.vCallK, DL.vLenS, DL.vRaiX, DL.vRai0, DL.vFld, DL.rMulA, DL.rEqO, DL.rNeO, DL.vTryAs, DL.vCallW, DL.vCallH, DL.vBorL, DL.vStar, DL.vRev, DL.rRev, DL.vZip, DL.items2, DL.seqOf, DL.vAsgO, DL.vNilO, DL.vConsO, DL.vOwnO, DL.setO, DL.rSumA, DL.vBoxI, DL.vBoxS, DL.vCells, DL.vPopOr, DL.vScr, DL.vV, DL.vC, DL.vOp, DL.isB, DL.vTest, DL.vAnd, DL.vOr, DL.vNot, DL.vAndV, DL.vOrV, DL.vNotV, DL.vIf, DL.isNon, DL.vIsN, DL.vNotN, DL.vNil, DL.vCons, DL.vTup, DL.vLst, DL.rAdd, DL.rSub, DL.rMul, DL.rInt, DL.rDiv, DL.rMod, DL.rPow, DL.rShl, DL.rLt, DL.rLe, DL.rGt, DL.rGe, DL.vChain, DL.rEqS, DL.rNeS, DL.rIx, DL.vIx, DL.vNoPart, DL.isI, DL.vPart, DL.rSl, DL.vSl, DL.vCB, DL.rLen, DL.rAbs, DL.rMax2, DL.rMin2, DL.rIntOf, DL.rListOf, DL.rTupleOf, DL.vNext, DL.vSeq, DL.vBreak, DL.vCont, DL.vNever, DL.vFrz, DL.vBor, DL.vBorT, DL.vSet, DL.vDrop, DL.vRet, DL.vRetN, DL.vIfS, DL.vNew, DL.vOwn, DL.isL, DL.isIn, DL.isOwnL, DL.vApp, DL.vSto, DL.gV, DL.gT, DL.vRng1, DL.vRng2, DL.vYes, DL.vLc, DL.vCall, DL.vAttr, DL.vIsi, DL.vMk0, DL.vMkX, endsD, endsI, startI, isInsA, putD, capS, List.getElem?_cons_zero, List.getElem?_cons_succ, List.set_cons_zero, List.set_cons_succ, frz, frz1, wipeS, setN, noOwn, DL.isNon, Bool.not_true, Bool.not_false, List.length_cons, List.length_nil, List.map]
      refine ⟨trivial, mb _ (fun h1 => ⟨trivial, ?_⟩) (fun h1 => ?_)⟩
      · dsimp only [isBetw] at hq
        rw [h1] at hq
        exact hq
      · dsimp only [isBetw] at hq
        rw [h1] at hq
        exact hq
    | _ => cases h
  · rw [isBetw_no h] at hq
    exact hq
def isLT : D → Bool
  | .lst _ => true
  | .tup _ => true
  | _ => false
theorem isLT_eq {d : D} {n : String} (h : tyS d = some n) : (subT n "list" || subT n "tuple") = isLT d := by
  cases d <;> first | (cases h; simp [subT, isLT]; done) | cases h
def c_is_list (C : Nat → Addr) : Ctr := fun ds Q _ => ∃ d n, ds = [d] ∧ tyS d = some n ∧ Q (.bl (isLT d))
theorem sc_is_list : FnScope ["thing"] ["thing"] (defScope s_is_list) := ⟨rfl, rfl, rfl, by decide +kernel, rfl, by decide +kernel, by decide +kernel⟩
theorem ok_is_list {f : Addr} {fd : FuncData} (F : L2.Fun K "is_list" "is_list" s_is_list f fd) (M : MC Pr w K mg base C)  : FnG Pr w K mg base (L2.CX Pr w) 1 f fd ["thing"] (spD (PP K C tbs) (fun _ => True) 1 (c_is_list C)) := by
  have nd := sc_is_list.nd
  have T := txt (tbs := tbs) M
  refine fnD (k := 0) F sc_is_list (fun g hgp cdv A outer s H E hr hgd => (ss_one (s_ret (d_isiT (K := K) rfl T rfl M.b_isinstance (d_var 0) rfl rfl (.ty M.b_list (by first | rfl | decide +kernel) (by decide)) (.ty M.b_tuple (by first | rfl | decide +kernel) (by decide)))))) ?_
  intro ds Qd Qx hl hc
  obtain ⟨d, n, rfl, hn, hq⟩ := hc
  rw [show startS ["thing"] [d] = [.v d] from rfl]
  dsimp only [DL.vAsg, DL.vFor, DL.vSeqI, DL.vNeg, DL.vPar, DL.vDct, DL.rMem, DL.vEnum, DL.vRepL, DL.vRepr, DL.rRepr, DL.vIsiT, DL.vCallK, DL.vLenS, DL.vRaiX, DL.vRai0, DL.vFld, DL.rMulA, DL.rEqO, DL.rNeO, DL.vTryAs, DL.vCallW, DL.vCallH, DL.vBorL, DL.vStar, DL.vRev, DL.rRev, DL.vZip, DL.items2, DL.seqOf, DL.vAsgO, DL.vNilO, DL.vConsO, DL.vOwnO, DL.setO, DL.rSumA, DL.vBoxI, DL.vBoxS, DL.vCells, DL.vPopOr, DL.vScr, DL.vV, DL.vC, DL.vOp, DL.isB, DL.vTest, DL.vAnd, DL.vOr, DL.vNot, DL.vAndV, DL.vOrV, DL.vNotV, DL.vIf, DL.isNon, DL.vIsN, DL.vNotN, DL.vNil, DL.vCons, DL.vTup, DL.vLst, DL.rAdd, DL.rSub, DL.rMul, DL.rInt, DL.rDiv, DL.rMod, DL.rPow, DL.rShl, DL.rLt, DL.rLe, DL.rGt, DL.rGe, DL.vChain, DL.rEqS, DL.rNeS, DL.rIx, DL.vIx, DL.vNoPart, DL.isI, DL.vPart, DL.rSl, DL.vSl, DL.vCB, DL.rLen, DL.rAbs, DL.rMax2, DL.rMin2, DL.rIntOf, DL.rListOf, DL.rTupleOf, DL.vNext, DL.vSeq, DL.vBreak, DL.vCont, DL.vNever, DL.vFrz, DL.vBor, DL.vBorT, DL.vSet, DL.vDrop, DL.vRet, DL.vRetN, DL.vIfS, DL.vNew, DL.vOwn, DL.isL, DL.isIn, DL.isOwnL, DL.vApp, DL.vSto, DL.gV, DL.gT, DL.vRng1, DL.vRng2, DL.vYes, DL.vLc, DL.vCall, DL.vAttr, DL.vIsi, DL.vMk0, DL.vMkX, endsD, endsI, startI, isInsA, putD, capS, List.getElem?_cons_zero, List.getElem?_cons_succ, List.set_cons_zero, List.set_cons_succ, frz, frz1, wipeS, setN, noOwn, DL.isNon, Bool.not_true, Bool.not_false, List.length_cons, List.length_nil, List.map]
  refine isi_S2 hn (by simp) (by simp) ?_
  rw [isLT_eq hn]
  exact hq
def c_need_between (C : Nat → Addr) : Ctr := fun ds Q Qx => ∃ d n lo hi part, ds = [d, .int lo, .int hi, .str part] ∧ tyS d = some n ∧ (isBetw d lo hi = true → Q .non) ∧ (isBetw d lo hi = false → Qx ⟨(C 1), [("part", .str part)]⟩)
theorem sc_need_between : FnScope ["number", "low", "high", "part"] ["number", "low", "high", "part"] (defScope s_need_between) := ⟨rfl, rfl, rfl, by decide +kernel, rfl, by decide +kernel, by decide +kernel⟩
theorem ok_need_between {f : Addr} {fd : FuncData} (F : L2.Fun K "need_between" "need_between" s_need_between f fd) (M : MC Pr w K mg base C) (F_is_between : FD Pr w K mg base "is_between" 2 ["thing", "low", "high"] (spD (PP K C tbs) (fun _ => True) 3 (c_is_between C))) : FnG Pr w K mg base (L2.CX Pr w) 3 f fd ["number", "low", "high", "part"] (spD (PP K C tbs) (fun _ => True) 4 (c_need_between C)) := by
  have nd := sc_need_between.nd
  have T := txt (tbs := tbs) M
  refine fnD (k := 2) F sc_need_between (fun g hgp cdv A outer s H E hr hgd => (ss_one (s_if (t_not (t_val (d_callF F_is_between (hr.mono (by decide)) hgd rfl trivial (a_cons (d_var 0) (a_cons (d_var 1) (a_cons (d_var 2) a_nil)))))) (ss_one (s_raiX rfl M.i_BadNumber (hr.mono (by decide)) rfl M.c_BadNumber (d_var 3))) ss_nil))) ?_
  intro ds Qd Qx hl hc
  obtain ⟨d, n, lo, hi, part, rfl, hn, h1, h2⟩ := hc
  rw [show startS ["number", "low", "high", "part"] [d, .int lo, .int hi, .str part] = [.v d, .v (.int lo), .v (.int hi), .v (.str part)] from rfl]
  dsimp only [DL.vAsg, DL.vFor, DL.vSeqI, DL.vNeg, DL.vPar, DL.vDct, DL.rMem, DL.vEnum, DL.vRepL, DL.vRepr, DL.rRepr, DL.vIsiT, DL.vCallK, DL.vLenS, DL.vRaiX, DL.vRai0, DL.vFld, DL.rMulA, DL.rEqO, DL.rNeO, DL.vTryAs, DL.vCallW, DL.vCallH, DL.vBorL, DL.vStar, DL.vRev, DL.rRev, DL.vZip, DL.items2, DL.seqOf, DL.vAsgO, DL.vNilO, DL.vConsO, DL.vOwnO, DL.setO, DL.rSumA, DL.vBoxI, DL.vBoxS, DL.vCells, DL.vPopOr, DL.vScr, DL.vV, DL.vC, DL.vOp, DL.isB, DL.vTest, DL.vAnd, DL.vOr, DL.vNot, DL.vAndV, DL.vOrV, DL.vNotV, DL.vIf, DL.isNon, DL.vIsN, DL.vNotN, DL.vNil, DL.vCons, DL.vTup, DL.vLst, DL.rAdd, DL.rSub, DL.rMul, DL.rInt, DL.rDiv, DL.rMod, DL.rPow, DL.rShl, DL.rLt, DL.rLe, DL.rGt, DL.rGe, DL.vChain, DL.rEqS, DL.rNeS, DL.rIx, DL.vIx, DL.vNoPart, DL.isI, DL.vPart, DL.rSl, DL.vSl, DL.vCB, DL.rLen, DL.rAbs, DL.rMax2, DL.rMin2, DL.rIntOf, DL.rListOf, DL.rTupleOf, DL.vNext, DL.vSeq, DL.vBreak, DL.vCont, DL.vNever, DL.vFrz, DL.vBor, DL.vBorT, DL.vSet, DL.vDrop, DL.vRet, DL.vRetN, DL.vIfS, DL.vNew, DL.vOwn, DL.isL, DL.isIn, DL.isOwnL, DL.vApp, DL.vSto, DL.gV, DL.gT, DL.vRng1, DL.vRng2, DL.vYes, DL.vLc, DL.vCall, DL.vAttr, DL.vIsi, DL.vMk0, DL.vMkX, endsD, endsI, startI, isInsA, putD, capS, List.getElem?_cons_zero, List.getElem?_cons_succ, List.set_cons_zero, List.set_cons_succ, frz, frz1, wipeS, setN, noOwn, DL.isNon, Bool.not_true, Bool.not_false, List.length_cons, List.length_nil, List.map, c_is_between]
  refine ⟨rfl, d, n, lo, hi, rfl, hn, ?_⟩
  cases e : isBetw d lo hi with
  | true => exact h1 e
  | false => exact h2 e

end K03

set_option maxRecDepth 100000
set_option maxHeartbeats 8000000
namespace K03
open PySem PySem.Spec PyProof.Rows L2 LamX NdefX DLX DL
variable {Pr : Program} {w : World} {K : PySem.W.Frag} {mg : Str → Option Value} {base : Heap} {P : Gl0}
variable {C tbs : Nat → Addr}
/-! ### rules: parts -/
def primeF (p : Int) (i : Nat) : Option Bool := if (2 : Int) + (i : Int) < p then some (!decide (p % ((2 : Int) + (i : Int)) = 0)) else none
def primeI (p : Int) : Bool := (decide (3 ≤ p) && decide (p ≤ 97)) && ((List.range 8).filterMap (primeF p)).all id
def isPrime : D → Bool
  | .int p => primeI p
  | _ => false
def c_is_prime (C : Nat → Addr) : Ctr := fun ds Q _ => ∃ d n, ds = [d] ∧ tyS d = some n ∧ Q (.bl (isPrime d))
theorem sc_is_prime : FnScope ["thing", "part"] ["thing"] (defScope s_is_prime) := ⟨rfl, rfl, rfl, by decide +kernel, rfl, by decide +kernel, by decide +kernel⟩
theorem ok_is_prime {f : Addr} {fd : FuncData} (F : L2.Fun K "is_prime" "is_prime" s_is_prime f fd) (M : MC Pr w K mg base C) (F_is_between : FD Pr w K mg base "is_between" 2 ["thing", "low", "high"] (spD (PP K C tbs) (fun _ => True) 3 (c_is_between C))) : FnG Pr w K mg base (L2.CX Pr w) 3 f fd ["thing"] (spD (PP K C tbs) (fun _ => True) 1 (c_is_prime C)) := by
  have nd := sc_is_prime.nd
  have T := txt (tbs := tbs) M
  obtain ⟨_, m_LEAST_PRIME⟩ := M.m_LEAST_PRIME
  obtain ⟨_, m_MOST_PRIME⟩ := M.m_MOST_PRIME
  refine fnD (k := 2) F sc_is_prime (fun g hgp cdv A outer s H E hr hgd => (ss_cons (s_if (t_not (t_val (d_callF F_is_between (hr.mono (by decide)) hgd rfl trivial (a_cons (d_var 0) (a_cons (d_gint rfl m_LEAST_PRIME) (a_cons (d_gint rfl m_MOST_PRIME) a_nil)))))) (ss_one (s_ret d_bl)) ss_nil) (ss_one (s_ret (d_callB (c_all rfl) rfl M.b_all (by first | rfl | decide +kernel) (a_cons (DN.de (n_lc (own := [("part", 1)]) rfl nd (i_rng2 rfl M.b_range d_int d_int) (blkOk_by (by rfl)) (fun _ _ _ _ _ => (g_name 1 nd (js := [1]))) (fun _ _ _ _ _ => (ts_one (t_cmp o_lt (d_var 1) (d_var 0) (by rfl)))) (fun _ _ _ _ _ => (d_cmp (o_neS hr.units) (d_op o_mod (d_var 0) (d_var 1)) d_int (by rfl))))) a_nil)))))) ?_
  intro ds Qd Qx hl hc
  obtain ⟨d, n, rfl, hn, hq⟩ := hc
  rw [show startS ["thing", "part"] [d] = [.v d, .u] from rfl]
  dsimp only [DL.vAsg, DL.vFor, DL.vSeqI, DL.vNeg, DL.vPar, DL.vDct, DL.rMem, DL.vEnum, DL.vRepL, DL.vRepr, DL.rRepr, DL.vIsiT, DL.vCallK, DL.vLenS, DL.vRaiX, DL.vRai0, DL.vFld, DL.rMulA, DL.rEqO, DL.rNeO, DL.vTryAs, DL.vCallW, DL.vCallH, DL.vBorL, DL.vStar, DL.vRev, DL.rRev, DL.vZip, DL.items2, DL.seqOf, DL.vAsgO, DL.vNilO, DL.vConsO, DL.vOwnO, DL.setO, DL.rSumA, DL.vBoxI, DL.vBoxS, DL.vCells, DL.vPopOr, DL.vScr, DL.vV, DL.vC, DL.vOp, DL.isB, DL.vTest, DL.vAnd, DL.vOr, DL.vNot, DL.vAndV, DL.vOrV, DL.vNotV, DL.vIf, DL.isNon, DL.vIsN, DL.vNotN, DL.vNil, DL.vCons, DL.vTup, DL.vLst, DL.rAdd, DL.rSub, DL.rMul, DL.rInt, DL.rDiv, DL.rMod, DL.rPow, DL.rShl, DL.rLt, DL.rLe, DL.rGt, DL.rGe, DL.vChain, DL.rEqS, DL.rNeS, DL.rIx, DL.vIx, DL.vNoPart, DL.isI, DL.vPart, DL.rSl, DL.vSl, DL.vCB, DL.rLen, DL.rAbs, DL.rMax2, DL.rMin2, DL.rIntOf, DL.rListOf, DL.rTupleOf, DL.vNext, DL.vSeq, DL.vBreak, DL.vCont, DL.vNever, DL.vFrz, DL.vBor, DL.vBorT, DL.vSet, DL.vDrop, DL.vRet, DL.vRetN, DL.vIfS, DL.vNew, DL.vOwn, DL.isL, DL.isIn, DL.isOwnL, DL.vApp, DL.vSto, DL.gV, DL.gT, DL.vRng1, DL.vRng2, DL.vYes, DL.vLc, DL.vCall, DL.vAttr, DL.vIsi, DL.vMk0, DL.vMkX, endsD, endsI, startI, isInsA, putD, capS, List.getElem?_cons_zero, List.getElem?_cons_succ, List.set_cons_zero, List.set_cons_succ, frz, frz1, wipeS, setN, noOwn, DL.isNon, Bool.not_true, Bool.not_false, List.length_cons, List.length_nil, List.map, c_is_between]
  refine ⟨rfl, d, n, 3, 97, rfl, hn, ?_⟩
  cases d with
  | int p =>
    cases e : isBetw (.int p) 3 97 with
    | true =>
      dsimp only [isPrime, primeI] at hq
      dsimp only [isBetw] at e
      rw [e, Bool.true_and] at hq
      refine ⟨by simp [noOwn], by decide, by decide, fun i acc => acc = ((List.range i).filterMap (primeF p)).map D.bl, rfl, fun i d acc hd ha => ?_, fun acc ha => ?_⟩
      · obtain ⟨hi, rfl⟩ := ints_get hd
        subst ha
        dsimp only [DL.vAsg, DL.vFor, DL.vSeqI, DL.vNeg, DL.vPar, DL.vDct, DL.rMem, DL.vEnum, DL.vRepL, DL.vRepr, DL.rRepr, DL.vIsiT, DL.vCallK, DL.vLenS, DL.vRaiX, DL.vRai0, DL.vFld, DL.rMulA, DL.rEqO, DL.rNeO, DL.vTryAs, DL.vCallW, DL.vCallH, DL.vBorL, DL.vStar, DL.vRev, DL.rRev, DL.vZip, DL.items2, DL.seqOf, DL.vAsgO, DL.vNilO, DL.vConsO, DL.vOwnO, DL.setO, DL.rSumA, DL.vBoxI, DL.vBoxS, DL.vCells, DL.vPopOr, DL.vScr, DL.vV, DL.vC, DL.vOp, DL.isB, DL.vTest, DL.vAnd, DL.vOr, DL.vNot, DL.vAndV, DL.vOrV, DL.vNotV, DL.vIf, DL.isNon, DL.vIsN, DL.vNotN, DL.vNil, DL.vCons, DL.vTup, DL.vLst, DL.rAdd, DL.rSub, DL.rMul, DL.rInt, DL.rDiv, DL.rMod, DL.rPow, DL.rShl, DL.rLt, DL.rLe, DL.rGt, DL.rGe, DL.vChain, DL.rEqS, DL.rNeS, DL.rIx, DL.vIx, DL.vNoPart, DL.isI, DL.vPart, DL.rSl, DL.vSl, DL.vCB, DL.rLen, DL.rAbs, DL.rMax2, DL.rMin2, DL.rIntOf, DL.rListOf, DL.rTupleOf, DL.vNext, DL.vSeq, DL.vBreak, DL.vCont, DL.vNever, DL.vFrz, DL.vBor, DL.vBorT, DL.vSet, DL.vDrop, DL.vRet, DL.vRetN, DL.vIfS, DL.vNew, DL.vOwn, DL.isL, DL.isIn, DL.isOwnL, DL.vApp, DL.vSto, DL.gV, DL.gT, DL.vRng1, DL.vRng2, DL.vYes, DL.vLc, DL.vCall, DL.vAttr, DL.vIsi, DL.vMk0, DL.vMkX, endsD, endsI, startI, isInsA, putD, capS, List.getElem?_cons_zero, List.getElem?_cons_succ, List.set_cons_zero, List.set_cons_succ, frz, frz1, wipeS, setN, noOwn, DL.isNon, Bool.not_true, Bool.not_false, List.length_cons, List.length_nil, List.map]
        refine ⟨trivial, mb _ (fun h => ?_) (fun h => ?_)⟩
        · refine ⟨by omega, ?_⟩
          have hf : primeF p i = some (!decide (p % ((2 : Int) + (i : Int)) = 0)) := if_pos (of_decide_eq_true h)
          rw [← rf_yes hf, List.map_append]
          rfl
        · have hf : primeF p i = none := if_neg (of_decide_eq_false h)
          rw [← rf_no hf]
      · subst ha
        exact all_bls hq
    | false =>
      dsimp only [isPrime, primeI] at hq
      dsimp only [isBetw] at e
      rw [e, Bool.false_and] at hq
      exact hq
  | _ => exact hq
def legsF (n : Int) (l : Nat) : Bool := decide ((1 : Int) * 2 ^ l = n)
def legsOf (n : Int) : D := match (List.range 9).find? (legsF n) with
  | some l => .int l
  | none => .non
def c_legs_of (C : Nat → Addr) : Ctr := fun ds Q _ => ∃ n, ds = [.int n] ∧ Q (legsOf n)
theorem sc_legs_of : FnScope ["many", "legs"] ["many"] (defScope s_legs_of) := ⟨rfl, rfl, rfl, by decide +kernel, rfl, by decide +kernel, by decide +kernel⟩
theorem find_yes {f : Nat → Bool} {i n : Nat} (hi : i < n) (h0 : ∀ j, j < i → f j = false) (h1 : f i = true) : (List.range n).find? f = some i := by
  rw [List.find?_range_eq_some]
  exact ⟨h1, by simpa using hi, fun j hj => by rw [h0 j hj]; rfl⟩
theorem ok_legs_of {f : Addr} {fd : FuncData} (F : L2.Fun K "legs_of" "legs_of" s_legs_of f fd) (M : MC Pr w K mg base C)  : FnG Pr w K mg base (L2.CX Pr w) 1 f fd ["many"] (spD (PP K C tbs) (fun _ => True) 1 (c_legs_of C)) := by
  have nd := sc_legs_of.nd
  have T := txt (tbs := tbs) M
  obtain ⟨_, m_MOST_LEGS⟩ := M.m_MOST_LEGS
  refine fnD (k := 0) F sc_legs_of (fun g hgp cdv A outer s H E hr hgd => (ss_cons (s_for (passes_of rfl) rfl (i_rng1 rfl M.b_range (d_op o_add (d_gint rfl m_MOST_LEGS) d_int)) (g_name 1 nd) (ss_one (s_if (t_cmp (o_eqS hr.units) (d_op o_shl d_int (d_var 1)) (d_var 0) (by rfl)) (ss_one (s_ret (d_var 1))) ss_nil))) (ss_one (s_ret d_non)))) ?_
  intro ds Qd Qx hl hc
  obtain ⟨n, rfl, hq⟩ := hc
  rw [show startS ["many", "legs"] [D.int n] = [.v (.int n), .u] from rfl]
  dsimp only [DL.vAsg, DL.vFor, DL.vSeqI, DL.vNeg, DL.vPar, DL.vDct, DL.rMem, DL.vEnum, DL.vRepL, DL.vRepr, DL.rRepr, DL.vIsiT, DL.vCallK, DL.vLenS, DL.vRaiX, DL.vRai0, DL.vFld, DL.rMulA, DL.rEqO, DL.rNeO, DL.vTryAs, DL.vCallW, DL.vCallH, DL.vBorL, DL.vStar, DL.vRev, DL.rRev, DL.vZip, DL.items2, DL.seqOf, DL.vAsgO, DL.vNilO, DL.vConsO, DL.vOwnO, DL.setO, DL.rSumA, DL.vBoxI, DL.vBoxS, DL.vCells, DL.vPopOr, DL.vScr, DL.vV, DL.vC, DL.vOp, DL.isB, DL.vTest, DL.vAnd, DL.vOr, DL.vNot, DL.vAndV, DL.vOrV, DL.vNotV, DL.vIf, DL.isNon, DL.vIsN, DL.vNotN, DL.vNil, DL.vCons, DL.vTup, DL.vLst, DL.rAdd, DL.rSub, DL.rMul, DL.rInt, DL.rDiv, DL.rMod, DL.rPow, DL.rShl, DL.rLt, DL.rLe, DL.rGt, DL.rGe, DL.vChain, DL.rEqS, DL.rNeS, DL.rIx, DL.vIx, DL.vNoPart, DL.isI, DL.vPart, DL.rSl, DL.vSl, DL.vCB, DL.rLen, DL.rAbs, DL.rMax2, DL.rMin2, DL.rIntOf, DL.rListOf, DL.rTupleOf, DL.vNext, DL.vSeq, DL.vBreak, DL.vCont, DL.vNever, DL.vFrz, DL.vBor, DL.vBorT, DL.vSet, DL.vDrop, DL.vRet, DL.vRetN, DL.vIfS, DL.vNew, DL.vOwn, DL.isL, DL.isIn, DL.isOwnL, DL.vApp, DL.vSto, DL.gV, DL.gT, DL.vRng1, DL.vRng2, DL.vYes, DL.vLc, DL.vCall, DL.vAttr, DL.vIsi, DL.vMk0, DL.vMkX, endsD, endsI, startI, isInsA, putD, capS, List.getElem?_cons_zero, List.getElem?_cons_succ, List.set_cons_zero, List.set_cons_succ, frz, frz1, wipeS, setN, noOwn, DL.isNon, Bool.not_true, Bool.not_false, List.length_cons, List.length_nil, List.map]
  refine ⟨⟨by decide, by decide⟩, fun i ss => (∃ a, ss = [.v (.int n), a]) ∧ ∀ j, j < i → legsF n j = false, ⟨⟨_, rfl⟩, fun j hj => absurd hj (Nat.not_lt_zero _)⟩, ?_, ?_⟩
  · rintro i d ss hd ⟨⟨a, rfl⟩, hI⟩
    obtain ⟨hi, rfl⟩ := ints_get hd
    dsimp only [DL.vAsg, DL.vFor, DL.vSeqI, DL.vNeg, DL.vPar, DL.vDct, DL.rMem, DL.vEnum, DL.vRepL, DL.vRepr, DL.rRepr, DL.vIsiT, DL.vCallK, DL.vLenS, DL.vRaiX, DL.vRai0, DL.vFld, DL.rMulA, DL.rEqO, DL.rNeO, DL.vTryAs, DL.vCallW, DL.vCallH, DL.vBorL, DL.vStar, DL.vRev, DL.rRev, DL.vZip, DL.items2, DL.seqOf, DL.vAsgO, DL.vNilO, DL.vConsO, DL.vOwnO, DL.setO, DL.rSumA, DL.vBoxI, DL.vBoxS, DL.vCells, DL.vPopOr, DL.vScr, DL.vV, DL.vC, DL.vOp, DL.isB, DL.vTest, DL.vAnd, DL.vOr, DL.vNot, DL.vAndV, DL.vOrV, DL.vNotV, DL.vIf, DL.isNon, DL.vIsN, DL.vNotN, DL.vNil, DL.vCons, DL.vTup, DL.vLst, DL.rAdd, DL.rSub, DL.rMul, DL.rInt, DL.rDiv, DL.rMod, DL.rPow, DL.rShl, DL.rLt, DL.rLe, DL.rGt, DL.rGe, DL.vChain, DL.rEqS, DL.rNeS, DL.rIx, DL.vIx, DL.vNoPart, DL.isI, DL.vPart, DL.rSl, DL.vSl, DL.vCB, DL.rLen, DL.rAbs, DL.rMax2, DL.rMin2, DL.rIntOf, DL.rListOf, DL.rTupleOf, DL.vNext, DL.vSeq, DL.vBreak, DL.vCont, DL.vNever, DL.vFrz, DL.vBor, DL.vBorT, DL.vSet, DL.vDrop, DL.vRet, DL.vRetN, DL.vIfS, DL.vNew, DL.vOwn, DL.isL, DL.isIn, DL.isOwnL, DL.vApp, DL.vSto, DL.gV, DL.gT, DL.vRng1, DL.vRng2, DL.vYes, DL.vLc, DL.vCall, DL.vAttr, DL.vIsi, DL.vMk0, DL.vMkX, endsD, endsI, startI, isInsA, putD, capS, List.getElem?_cons_zero, List.getElem?_cons_succ, List.set_cons_zero, List.set_cons_succ, frz, frz1, wipeS, setN, noOwn, DL.isNon, Bool.not_true, Bool.not_false, List.length_cons, List.length_nil, List.map]
    have hi : i < 9 := hi
    rw [Int.zero_add]
    refine ⟨⟨by omega, by omega, by decide⟩, mb _ (fun h => ?_) (fun h => ?_)⟩
    · unfold legsOf at hq
      rw [find_yes hi hI h] at hq
      exact hq
    · exact ⟨⟨_, rfl⟩, fun j hj => (Nat.lt_succ_iff_lt_or_eq.mp hj).elim (hI j) fun e => by rw [e]; exact h⟩
  · rintro ss ⟨⟨a, rfl⟩, hI⟩
    have e : (List.range 9).find? (legsF n) = none := List.find?_eq_none.mpr fun j hj => by rw [hI j (List.mem_range.mp hj)]; simp
    unfold legsOf at hq
    rw [e] at hq
    exact hq
def items : D → Option (List D)
  | .lst l => some l
  | .tup l => some l
  | _ => none
def isTable (p : Int) (d : D) : Bool := match items d with
  | some l => (!isNon (legsOf (l.length : Int))) && l.all fun x => isBetw x 0 (p - 1)
  | none => false
def simpL (l : List D) : Prop := ∀ x ∈ l, ∃ n, tyS x = some n
def simpI (d : D) : Prop := (∃ n, tyS d = some n) ∧ ∀ l, items d = some l → l.length ≤ 100000 ∧ simpL l
def c_is_table (C : Nat → Addr) : Ctr := fun ds Q _ => ∃ p d, ds = [.int p, d] ∧ simpI d ∧ Q (.bl (isTable p d))
theorem sc_is_table : FnScope ["prime", "thing", "item"] ["prime", "thing"] (defScope s_is_table) := ⟨rfl, rfl, rfl, by decide +kernel, rfl, by decide +kernel, by decide +kernel⟩
theorem ok_is_table {f : Addr} {fd : FuncData} (F : L2.Fun K "is_table" "is_table" s_is_table f fd) (M : MC Pr w K mg base C) (F_is_between : FD Pr w K mg base "is_between" 2 ["thing", "low", "high"] (spD (PP K C tbs) (fun _ => True) 3 (c_is_between C))) (F_is_list : FD Pr w K mg base "is_list" 1 ["thing"] (spD (PP K C tbs) (fun _ => True) 1 (c_is_list C))) (F_legs_of : FD Pr w K mg base "legs_of" 1 ["many"] (spD (PP K C tbs) (fun _ => True) 1 (c_legs_of C))) : FnG Pr w K mg base (L2.CX Pr w) 3 f fd ["prime", "thing"] (spD (PP K C tbs) (fun _ => True) 2 (c_is_table C)) := by
  have nd := sc_is_table.nd
  have T := txt (tbs := tbs) M
  refine fnD (k := 2) F sc_is_table (fun g hgp cdv A outer s H E hr hgd => (ss_cons (s_if (DW.dt (w_or (t_not (t_val (d_callF F_is_list (hr.mono (by decide)) hgd rfl trivial (a_cons (d_var 1) a_nil)))) (w_or1 (t_isN (d_callF F_legs_of (hr.mono (by decide)) hgd rfl trivial (a_cons (d_callB c_len rfl M.b_len (by first | rfl | decide +kernel) (a_cons (d_var 1) a_nil)) a_nil)))))) (ss_one (s_ret d_bl)) ss_nil) (ss_one (s_ret (d_callB (c_all rfl) rfl M.b_all (by first | rfl | decide +kernel) (a_cons (DN.de (n_lc (own := [("item", 2)]) rfl nd (i_seq (d_var 1)) (blkOk_by (by rfl)) (fun _ _ _ _ _ => (g_name 2 nd (js := [2]))) (fun _ _ _ _ _ => ts_nil) (fun _ _ _ _ _ => (d_callF F_is_between (hr.mono (by decide)) hgd rfl trivial (a_cons (d_var 2) (a_cons d_int (a_cons (d_op o_sub (d_var 0) d_int) a_nil))))))) a_nil)))))) ?_
  intro ds Qd Qx hl hc
  obtain ⟨p, d, rfl, ⟨⟨n, hn⟩, hs⟩, hq⟩ := hc
  rw [show startS ["prime", "thing", "item"] [.int p, d] = [.v (.int p), .v d, .u] from rfl]
  dsimp only [DL.vAsg, DL.vFor, DL.vSeqI, DL.vNeg, DL.vPar, DL.vDct, DL.rMem, DL.vEnum, DL.vRepL, DL.vRepr, DL.rRepr, DL.vIsiT, DL.vCallK, DL.vLenS, DL.vRaiX, DL.vRai0, DL.vFld, DL.rMulA, DL.rEqO, DL.rNeO, DL.vTryAs, DL.vCallW, DL.vCallH, DL.vBorL, DL.vStar, DL.vRev, DL.rRev, DL.vZip, DL.items2, DL.seqOf, DL.vAsgO, DL.vNilO, DL.vConsO, DL.vOwnO, DL.setO, DL.rSumA, DL.vBoxI, DL.vBoxS, DL.vCells, DL.vPopOr, DL.vScr, DL.vV, DL.vC, DL.vOp, DL.isB, DL.vTest, DL.vAnd, DL.vOr, DL.vNot, DL.vAndV, DL.vOrV, DL.vNotV, DL.vIf, DL.isNon, DL.vIsN, DL.vNotN, DL.vNil, DL.vCons, DL.vTup, DL.vLst, DL.rAdd, DL.rSub, DL.rMul, DL.rInt, DL.rDiv, DL.rMod, DL.rPow, DL.rShl, DL.rLt, DL.rLe, DL.rGt, DL.rGe, DL.vChain, DL.rEqS, DL.rNeS, DL.rIx, DL.vIx, DL.vNoPart, DL.isI, DL.vPart, DL.rSl, DL.vSl, DL.vCB, DL.rLen, DL.rAbs, DL.rMax2, DL.rMin2, DL.rIntOf, DL.rListOf, DL.rTupleOf, DL.vNext, DL.vSeq, DL.vBreak, DL.vCont, DL.vNever, DL.vFrz, DL.vBor, DL.vBorT, DL.vSet, DL.vDrop, DL.vRet, DL.vRetN, DL.vIfS, DL.vNew, DL.vOwn, DL.isL, DL.isIn, DL.isOwnL, DL.vApp, DL.vSto, DL.gV, DL.gT, DL.vRng1, DL.vRng2, DL.vYes, DL.vLc, DL.vCall, DL.vAttr, DL.vIsi, DL.vMk0, DL.vMkX, endsD, endsI, startI, isInsA, putD, capS, List.getElem?_cons_zero, List.getElem?_cons_succ, List.set_cons_zero, List.set_cons_succ, frz, frz1, wipeS, setN, noOwn, DL.isNon, Bool.not_true, Bool.not_false, List.length_cons, List.length_nil, List.map, c_is_list, c_legs_of, c_is_between]
  refine ⟨rfl, d, n, rfl, hn, ?_⟩
  cases d with
  | lst l =>
    obtain ⟨h1, h2⟩ := hs l rfl
    dsimp only [isTable, items] at hq
    dsimp only [isLT, Bool.not_true]
    refine ⟨rfl, _, rfl, ?_⟩
    show (match isNon (legsOf (l.length : Int)) with | true => _ | false => _)
    cases e : isNon (legsOf (l.length : Int)) with
    | true =>
      rw [e] at hq
      exact hq
    | false =>
      rw [e] at hq
      refine ⟨by simp [noOwn], Nat.le_trans h1 (by decide), fun i acc => acc = ((l.take i).map fun x => isBetw x 0 (p - 1)).map D.bl, rfl, fun i d acc hd ha => ?_, fun acc ha => ?_⟩
      · subst ha
        obtain ⟨m, hm⟩ := h2 d (List.mem_of_getElem? hd)
        refine ⟨rfl, d, m, 0, p - 1, rfl, hm, ?_⟩
        show _ = ((l.take (i + 1)).map fun x => isBetw x 0 (p - 1)).map D.bl
        rw [← map_step _ hd, List.map_append]
        rfl
      · subst ha
        rw [List.take_length]
        refine all_bls ?_
        rw [List.all_map]
        exact hq
  | tup l =>
    obtain ⟨h1, h2⟩ := hs l rfl
    dsimp only [isTable, items] at hq
    dsimp only [isLT, Bool.not_true]
    refine ⟨rfl, _, rfl, ?_⟩
    show (match isNon (legsOf (l.length : Int)) with | true => _ | false => _)
    cases e : isNon (legsOf (l.length : Int)) with
    | true =>
      rw [e] at hq
      exact hq
    | false =>
      rw [e] at hq
      refine ⟨by simp [noOwn], Nat.le_trans h1 (by decide), fun i acc => acc = ((l.take i).map fun x => isBetw x 0 (p - 1)).map D.bl, rfl, fun i d acc hd ha => ?_, fun acc ha => ?_⟩
      · subst ha
        obtain ⟨m, hm⟩ := h2 d (List.mem_of_getElem? hd)
        refine ⟨rfl, d, m, 0, p - 1, rfl, hm, ?_⟩
        show _ = ((l.take (i + 1)).map fun x => isBetw x 0 (p - 1)).map D.bl
        rw [← map_step _ hd, List.map_append]
        rfl
      · subst ha
        rw [List.take_length]
        refine all_bls ?_
        rw [List.all_map]
        exact hq
  | _ => exact hq
def ruleD (C : Nat → Addr) (p : Int) (legs : D) (l : List D) : D := .ins (C 4) [("prime", .int p), ("legs", legs), ("table", .tup l)]
/-- a rule, made -/
def c_Rule (C : Nat → Addr) : Ctr := fun ds Q Qx => ∃ d1 d2 n1, ds = [d1, d2] ∧ tyS d1 = some n1 ∧ (isPrime d1 = false → Qx ⟨(C 2), [("part", .str "prime")]⟩) ∧
  (∀ p, d1 = .int p → primeI p = true → simpI d2 ∧ (isTable p d2 = false → Qx ⟨(C 2), [("part", .str "table")]⟩) ∧ (∀ l, items d2 = some l → isTable p d2 = true → Q (ruleD C p (legsOf (l.length : Int)) l)))
theorem sc_Rule_init : FnScope ["self", "prime", "table"] ["self", "prime", "table"] (defScope s_Rule_init) := ⟨rfl, rfl, rfl, by decide +kernel, rfl, by decide +kernel, by decide +kernel⟩
theorem ok_Rule_init {f : Addr} {fd : FuncData} (F : L2.Fun K "__init__" "Rule.__init__" s_Rule_init f fd) (M : MC Pr w K mg base C) (F_is_prime : FD Pr w K mg base "is_prime" 3 ["thing"] (spD (PP K C tbs) (fun _ => True) 1 (c_is_prime C))) (F_is_table : FD Pr w K mg base "is_table" 3 ["prime", "thing"] (spD (PP K C tbs) (fun _ => True) 2 (c_is_table C))) (F_legs_of : FD Pr w K mg base "legs_of" 1 ["many"] (spD (PP K C tbs) (fun _ => True) 1 (c_legs_of C))) : FnG Pr w K mg base (L2.CX Pr w) 4 f fd ["self", "prime", "table"] (spI (PP K C tbs) (fun _ => True) 2 (C 4) (c_Rule C)) := by
  have nd := sc_Rule_init.nd
  have T := txt (tbs := tbs) M
  refine fnDI (k := 3) F sc_Rule_init (by decide) (fun g hgp cdv A outer s H E hr hgd => (ss_cons (s_if (t_not (t_val (d_callF F_is_prime (hr.mono (by decide)) hgd rfl trivial (a_cons (d_var 1) a_nil)))) (ss_one (s_raiX rfl M.i_BadRule (hr.mono (by decide)) rfl M.c_BadRule d_str)) ss_nil) (ss_cons (s_if (t_not (t_val (d_callF F_is_table (hr.mono (by decide)) hgd rfl trivial (a_cons (d_var 1) (a_cons (d_var 2) a_nil))))) (ss_one (s_raiX rfl M.i_BadRule (hr.mono (by decide)) rfl M.c_BadRule d_str)) ss_nil) (ss_cons (s_fld 0 T (d_var 1)) (ss_cons (s_fld 0 T (d_callF F_legs_of (hr.mono (by decide)) hgd rfl trivial (a_cons (d_callB c_len rfl M.b_len (by first | rfl | decide +kernel) (a_cons (d_var 2) a_nil)) a_nil))) (ss_one (s_fld 0 T (d_callTy c_tuple rfl M.b_tuple (by first | rfl | decide +kernel) (a_cons (d_var 2) a_nil))))))))) ?_
  intro x ds Qd Qx hl hc
  obtain ⟨d1, d2, n1, rfl, hn, hx, hc⟩ := hc
  rw [show startI ["self", "prime", "table"] x (C 4) [d1, d2] = [.own (.insA x (C 4) []), .v d1, .v d2] from rfl]
  dsimp only [DL.vAsg, DL.vFor, DL.vSeqI, DL.vNeg, DL.vPar, DL.vDct, DL.rMem, DL.vEnum, DL.vRepL, DL.vRepr, DL.rRepr, DL.vIsiT, DL.vCallK, DL.vLenS, DL.vRaiX, DL.vRai0, DL.vFld, DL.rMulA, DL.rEqO, DL.rNeO, DL.vTryAs, DL.vCallW, DL.vCallH, DL.vBorL, DL.vStar, DL.vRev, DL.rRev, DL.vZip, DL.items2, DL.seqOf, DL.vAsgO, DL.vNilO, DL.vConsO, DL.vOwnO, DL.setO, DL.rSumA, DL.vBoxI, DL.vBoxS, DL.vCells, DL.vPopOr, DL.vScr, DL.vV, DL.vC, DL.vOp, DL.isB, DL.vTest, DL.vAnd, DL.vOr, DL.vNot, DL.vAndV, DL.vOrV, DL.vNotV, DL.vIf, DL.isNon, DL.vIsN, DL.vNotN, DL.vNil, DL.vCons, DL.vTup, DL.vLst, DL.rAdd, DL.rSub, DL.rMul, DL.rInt, DL.rDiv, DL.rMod, DL.rPow, DL.rShl, DL.rLt, DL.rLe, DL.rGt, DL.rGe, DL.vChain, DL.rEqS, DL.rNeS, DL.rIx, DL.vIx, DL.vNoPart, DL.isI, DL.vPart, DL.rSl, DL.vSl, DL.vCB, DL.rLen, DL.rAbs, DL.rMax2, DL.rMin2, DL.rIntOf, DL.rListOf, DL.rTupleOf, DL.vNext, DL.vSeq, DL.vBreak, DL.vCont, DL.vNever, DL.vFrz, DL.vBor, DL.vBorT, DL.vSet, DL.vDrop, DL.vRet, DL.vRetN, DL.vIfS, DL.vNew, DL.vOwn, DL.isL, DL.isIn, DL.isOwnL, DL.vApp, DL.vSto, DL.gV, DL.gT, DL.vRng1, DL.vRng2, DL.vYes, DL.vLc, DL.vCall, DL.vAttr, DL.vIsi, DL.vMk0, DL.vMkX, endsD, endsI, startI, isInsA, putD, capS, List.getElem?_cons_zero, List.getElem?_cons_succ, List.set_cons_zero, List.set_cons_succ, frz, frz1, wipeS, setN, noOwn, DL.isNon, Bool.not_true, Bool.not_false, List.length_cons, List.length_nil, List.map, c_is_prime, c_is_table, c_legs_of]
  refine ⟨rfl, d1, n1, rfl, hn, ?_⟩
  cases e1 : isPrime d1 with
  | false => exact hx e1
  | true =>
    obtain ⟨p, rfl⟩ : ∃ p, d1 = .int p := by
      cases d1 with
      | int p => exact ⟨p, rfl⟩
      | _ => cases e1
    obtain ⟨h1, h2, h3⟩ := hc p rfl e1
    refine ⟨rfl, p, d2, rfl, h1, ?_⟩
    cases e2 : isTable p d2 with
    | false => exact h2 e2
    | true =>
      cases d2 with
      | lst l =>
        refine ⟨rfl, M.a_Rule_prime, by decide, rfl, _, rfl, rfl, M.a_Rule_legs, by decide, rfl, M.a_Rule_table, ?_⟩
        rw [if_neg (by decide)]
        refine ⟨(show (2 : Nat) < 1000 from by decide), rfl, rfl, ?_⟩
        dsimp only [putD]
        rw [if_neg (by decide), if_neg (by decide)]
        exact h3 l rfl e2
      | tup l =>
        refine ⟨rfl, M.a_Rule_prime, by decide, rfl, _, rfl, rfl, M.a_Rule_legs, by decide, rfl, M.a_Rule_table, ?_⟩
        rw [if_neg (by decide)]
        refine ⟨(show (2 : Nat) < 1000 from by decide), rfl, rfl, ?_⟩
        dsimp only [putD]
        rw [if_neg (by decide), if_neg (by decide)]
        exact h3 l rfl e2
      | _ => cases e2

end K03

set_option maxRecDepth 100000
set_option maxHeartbeats 8000000
namespace K03
open PySem PySem.Spec PyProof.Rows L2 LamX NdefX DLX DL
variable {Pr : Program} {w : World} {K : PySem.W.Frag} {mg : Str → Option Value} {base : Heap} {P : Gl0}
variable {C tbs : Nat → Addr}
/-! ### rules: equal ones, worths -/
def intsL (ns : List Int) : List D := ns.map D.int
def c_Rule_eq (C : Nat → Addr) : Ctr := fun ds Q _ => ∃ p legs ns d, ds = [ruleD C p legs (intsL ns), d] ∧ ((∃ n, tyS d = some n) ∧ Q (.bl false) ∨ ∃ q legs' ms, d = ruleD C q legs' (intsL ms) ∧ Q (.bl (decide (p = q) && decide (ns = ms))))
theorem sc_Rule_eq : FnScope ["self", "other"] ["self", "other"] (defScope s_Rule_eq) := ⟨rfl, rfl, rfl, by decide +kernel, rfl, by decide +kernel, by decide +kernel⟩
theorem some1 {f : Str} {d : D} {r : List (Str × D)} {Q : D → Prop} (h : Q d) : someD (((f, d) :: r).lookup f) Q := by
  rw [List.lookup_cons, beq_self_eq_true]
  exact h
theorem some2 {f g : Str} {e : D} {r : List (Str × D)} {Q : D → Prop} (hf : (g == f) = false) (h : someD (r.lookup g) Q) : someD (((f, e) :: r).lookup g) Q := by
  rw [List.lookup_cons, hf]
  exact h
theorem ok_Rule_eq {f : Addr} {fd : FuncData} (F : L2.Fun K "__eq__" "Rule.__eq__" s_Rule_eq f fd) (M : MC Pr w K mg base C)  : FnG Pr w K mg base (L2.CX Pr w) 1 f fd ["self", "other"] (spD (PP K C tbs) (fun _ => True) 2 (c_Rule_eq C)) := by
  have nd := sc_Rule_eq.nd
  have T := txt (tbs := tbs) M
  refine fnD (k := 0) F sc_Rule_eq (fun g hgp cdv A outer s H E hr hgd => (ss_cons (s_if (t_not (t_val (d_isi T rfl M.b_isinstance (d_var 1) rfl (.own M.c_Rule)))) (ss_one (s_ret d_bl)) ss_nil) (ss_one (s_ret (d_and (d_cmp (o_eqS hr.units) (d_attr T (d_var 0)) (d_attr T (d_var 1)) (by rfl)) (d_one (d_cmp (o_eqS hr.units) (d_attr T (d_var 0)) (d_attr T (d_var 1)) (by rfl)))))))) ?_
  intro ds Qd Qx hl hc
  obtain ⟨p, legs, ns, d, rfl, hc⟩ := hc
  rw [show startS ["self", "other"] [ruleD C p legs (intsL ns), d] = [.v (ruleD C p legs (intsL ns)), .v d] from rfl]
  dsimp only [DL.vAsg, DL.vFor, DL.vSeqI, DL.vNeg, DL.vPar, DL.vDct, DL.vEnum, DL.vRepL, DL.vRepr, DL.rRepr, DL.vIsiT, DL.vCallK, DL.vLenS, DL.vRaiX, DL.vRai0, DL.vFld, DL.rMulA, DL.rEqO, DL.rNeO, DL.vTryAs, DL.vCallW, DL.vCallH, DL.vBorL, DL.vStar, DL.vRev, DL.rRev, DL.vZip, DL.items2, DL.seqOf, DL.vAsgO, DL.vNilO, DL.vConsO, DL.vOwnO, DL.setO, DL.rSumA, DL.vBoxI, DL.vBoxS, DL.vCells, DL.vPopOr, DL.vScr, DL.vV, DL.vC, DL.vOp, DL.isB, DL.vTest, DL.vAnd, DL.vOr, DL.vNot, DL.vAndV, DL.vOrV, DL.vNotV, DL.vIf, DL.isNon, DL.vIsN, DL.vNotN, DL.vNil, DL.vCons, DL.vTup, DL.vLst, DL.rAdd, DL.rSub, DL.rMul, DL.rInt, DL.rDiv, DL.rMod, DL.rPow, DL.rShl, DL.rLt, DL.rLe, DL.rGt, DL.rGe, DL.vChain, DL.rIx, DL.vIx, DL.vNoPart, DL.isI, DL.vPart, DL.rSl, DL.vSl, DL.vCB, DL.rLen, DL.rAbs, DL.rMax2, DL.rMin2, DL.rIntOf, DL.rListOf, DL.rTupleOf, DL.vNext, DL.vSeq, DL.vBreak, DL.vCont, DL.vNever, DL.vFrz, DL.vBor, DL.vBorT, DL.vSet, DL.vDrop, DL.vRet, DL.vRetN, DL.vIfS, DL.vNew, DL.vOwn, DL.isL, DL.isIn, DL.isOwnL, DL.vApp, DL.vSto, DL.gV, DL.gT, DL.vRng1, DL.vRng2, DL.vYes, DL.vLc, DL.vCall, DL.vAttr, DL.vIsi, DL.vMk0, DL.vMkX, endsD, endsI, startI, isInsA, putD, capS, List.getElem?_cons_zero, List.getElem?_cons_succ, List.set_cons_zero, List.set_cons_succ, frz, frz1, wipeS, setN, noOwn, DL.isNon, Bool.not_true, Bool.not_false, List.length_cons, List.length_nil, List.map]
  have hI : ∀ {b : Bool}, isIns (C 4) d = some b → ∀ {Q : Bool → Prop}, Q b → okI (PP K C tbs) d ∧ ∃ t b, tyD (PP K C tbs) d = some t ∧ (PP K C tbs).isa t (.ref (C 4)) = some b ∧ Q b := fun h _ q => isi_I rfl M.o_Rule rfl h q
  rcases hc with ⟨⟨n, hn⟩, hq⟩ | ⟨q, legs', ms, rfl, hq⟩
  · refine hI (b := false) ?_ hq
    cases d <;> first | (cases hn; rfl) | cases hn
  · refine hI (b := true) (if_pos rfl) ?_
    dsimp only [ruleD, Bool.not_true]
    refine ⟨rfl, M.a_Rule_prime, some1 ⟨rfl, M.a_Rule_prime, some1 ?_⟩⟩
    show (match decide (p = q) with | true => _ | false => _)
    cases e : decide (p = q) with
    | false =>
      rw [e] at hq
      exact hq
    | true =>
      rw [e] at hq
      exact ⟨rfl, M.a_Rule_table, some2 (by decide) (some2 (by decide) (some1 ⟨rfl, M.a_Rule_table, some2 (by decide) (some2 (by decide) (some1 (eq_tup_ints hq)))⟩))⟩
/-- of a rule, or of what is none -/
def c_need_rule (C : Nat → Addr) : Ctr := fun ds Q Qx => ∃ d b, ds = [d] ∧ isIns (C 4) d = some b ∧ (b = true → Q .non) ∧ (b = false → Qx ⟨(C 2), [("part", .non)]⟩)
theorem sc_need_rule : FnScope ["thing"] ["thing"] (defScope s_need_rule) := ⟨rfl, rfl, rfl, by decide +kernel, rfl, by decide +kernel, by decide +kernel⟩
theorem ok_need_rule {f : Addr} {fd : FuncData} (F : L2.Fun K "need_rule" "need_rule" s_need_rule f fd) (M : MC Pr w K mg base C)  : FnG Pr w K mg base (L2.CX Pr w) 2 f fd ["thing"] (spD (PP K C tbs) (fun _ => True) 1 (c_need_rule C)) := by
  have nd := sc_need_rule.nd
  have T := txt (tbs := tbs) M
  refine fnD (k := 1) F sc_need_rule (fun g hgp cdv A outer s H E hr hgd => (ss_one (s_if (t_not (t_val (d_isi T rfl M.b_isinstance (d_var 0) rfl (.own M.c_Rule)))) (ss_one (s_raiX rfl M.i_BadRule (hr.mono (by decide)) rfl M.c_BadRule d_non)) ss_nil))) ?_
  intro ds Qd Qx hl hc
  obtain ⟨d, b, rfl, hb, h1, h2⟩ := hc
  rw [show startS ["thing"] [d] = [.v d] from rfl]
  dsimp only [DL.vAsg, DL.vFor, DL.vSeqI, DL.vNeg, DL.vPar, DL.vDct, DL.rMem, DL.vEnum, DL.vRepL, DL.vRepr, DL.rRepr, DL.vIsiT, DL.vCallK, DL.vLenS, DL.vRaiX, DL.vRai0, DL.vFld, DL.rMulA, DL.rEqO, DL.rNeO, DL.vTryAs, DL.vCallW, DL.vCallH, DL.vBorL, DL.vStar, DL.vRev, DL.rRev, DL.vZip, DL.items2, DL.seqOf, DL.vAsgO, DL.vNilO, DL.vConsO, DL.vOwnO, DL.setO, DL.rSumA, DL.vBoxI, DL.vBoxS, DL.vCells, DL.vPopOr, DL.vScr, DL.vV, DL.vC, DL.vOp, DL.isB, DL.vTest, DL.vAnd, DL.vOr, DL.vNot, DL.vAndV, DL.vOrV, DL.vNotV, DL.vIf, DL.isNon, DL.vIsN, DL.vNotN, DL.vNil, DL.vCons, DL.vTup, DL.vLst, DL.rAdd, DL.rSub, DL.rMul, DL.rInt, DL.rDiv, DL.rMod, DL.rPow, DL.rShl, DL.rLt, DL.rLe, DL.rGt, DL.rGe, DL.vChain, DL.rEqS, DL.rNeS, DL.rIx, DL.vIx, DL.vNoPart, DL.isI, DL.vPart, DL.rSl, DL.vSl, DL.vCB, DL.rLen, DL.rAbs, DL.rMax2, DL.rMin2, DL.rIntOf, DL.rListOf, DL.rTupleOf, DL.vNext, DL.vSeq, DL.vBreak, DL.vCont, DL.vNever, DL.vFrz, DL.vBor, DL.vBorT, DL.vSet, DL.vDrop, DL.vRet, DL.vRetN, DL.vIfS, DL.vNew, DL.vOwn, DL.isL, DL.isIn, DL.isOwnL, DL.vApp, DL.vSto, DL.gV, DL.gT, DL.vRng1, DL.vRng2, DL.vYes, DL.vLc, DL.vCall, DL.vAttr, DL.vIsi, DL.vMk0, DL.vMkX, endsD, endsI, startI, isInsA, putD, capS, List.getElem?_cons_zero, List.getElem?_cons_succ, List.set_cons_zero, List.set_cons_succ, frz, frz1, wipeS, setN, noOwn, DL.isNon, Bool.not_true, Bool.not_false, List.length_cons, List.length_nil, List.map]
  refine isi_I rfl M.o_Rule rfl hb ?_
  cases b with
  | true => exact h1 rfl
  | false => exact h2 rfl
theorem pow8 {a : Int} {n : Nat} (h : n ≤ 8) : CDiv a (1 * 2 ^ n) := by
  unfold CDiv
  have : n = 0 ∨ n = 1 ∨ n = 2 ∨ n = 3 ∨ n = 4 ∨ n = 5 ∨ n = 6 ∨ n = 7 ∨ n = 8 := by omega
  rcases this with rfl | rfl | rfl | rfl | rfl | rfl | rfl | rfl | rfl <;> decide
theorem atI_map {ns : List Int} {i x : Int} (h : L2.atI ns i = some x) : L2.atI (ns.map D.int) i = some (.int x) := by
  unfold L2.atI at h ⊢
  rw [List.length_map]
  obtain ⟨j, h1, h2⟩ := Option.bind_eq_some_iff.mp h
  rw [h1, Option.bind_some, List.getElem?_map, h2]
  rfl
/-- the place in a table -/
def indexOf (ns : List Int) : Int := ns.foldl (fun f b => 2 * f + b) 0
def c_index_of (C : Nat → Addr) : Ctr := fun ds Q _ => ∃ (ns : List Int) (d : D), ds = [d] ∧ items d = some (intsL ns) ∧ Q (.int (indexOf ns))
theorem sc_index_of : FnScope ["bits", "found", "bit"] ["bits"] (defScope s_index_of) := ⟨rfl, rfl, rfl, by decide +kernel, rfl, by decide +kernel, by decide +kernel⟩
theorem ok_index_of {f : Addr} {fd : FuncData} (F : L2.Fun K "index_of" "index_of" s_index_of f fd) (M : MC Pr w K mg base C)  : FnG Pr w K mg base (L2.CX Pr w) 1 f fd ["bits"] (spD (PP K C tbs) (fun _ => True) 1 (c_index_of C)) := by
  have nd := sc_index_of.nd
  have T := txt (tbs := tbs) M
  refine fnD (k := 0) F sc_index_of (fun g hgp cdv A outer s H E hr hgd => (ss_cons (s_set 1 nd d_int) (ss_cons (s_for (passes_of rfl) rfl (i_seq (d_var 0)) (g_name 2 nd) (ss_one (s_set 1 nd (d_op o_add (d_op o_mulA d_int (d_var 1)) (d_var 2))))) (ss_one (s_ret (d_var 1)))))) ?_
  intro ds Qd Qx hl hc
  obtain ⟨ns, d, rfl, hd, hq⟩ := hc
  rw [show startS ["bits", "found", "bit"] [d] = [.v d, .u, .u] from rfl]
  cases d with
  | lst l =>
    cases hd
    dsimp only [DL.vAsg, DL.vFor, DL.vSeqI, DL.vNeg, DL.vPar, DL.vDct, DL.rMem, DL.vEnum, DL.vRepL, DL.vRepr, DL.rRepr, DL.vIsiT, DL.vCallK, DL.vLenS, DL.vRaiX, DL.vRai0, DL.vFld, DL.rMulA, DL.rEqO, DL.rNeO, DL.vTryAs, DL.vCallW, DL.vCallH, DL.vBorL, DL.vStar, DL.vRev, DL.rRev, DL.vZip, DL.items2, DL.seqOf, DL.vAsgO, DL.vNilO, DL.vConsO, DL.vOwnO, DL.setO, DL.rSumA, DL.vBoxI, DL.vBoxS, DL.vCells, DL.vPopOr, DL.vScr, DL.vV, DL.vC, DL.vOp, DL.isB, DL.vTest, DL.vAnd, DL.vOr, DL.vNot, DL.vAndV, DL.vOrV, DL.vNotV, DL.vIf, DL.isNon, DL.vIsN, DL.vNotN, DL.vNil, DL.vCons, DL.vTup, DL.vLst, DL.rAdd, DL.rSub, DL.rMul, DL.rInt, DL.rDiv, DL.rMod, DL.rPow, DL.rShl, DL.rLt, DL.rLe, DL.rGt, DL.rGe, DL.vChain, DL.rEqS, DL.rNeS, DL.rIx, DL.vIx, DL.vNoPart, DL.isI, DL.vPart, DL.rSl, DL.vSl, DL.vCB, DL.rLen, DL.rAbs, DL.rMax2, DL.rMin2, DL.rIntOf, DL.rListOf, DL.rTupleOf, DL.vNext, DL.vSeq, DL.vBreak, DL.vCont, DL.vNever, DL.vFrz, DL.vBor, DL.vBorT, DL.vSet, DL.vDrop, DL.vRet, DL.vRetN, DL.vIfS, DL.vNew, DL.vOwn, DL.isL, DL.isIn, DL.isOwnL, DL.vApp, DL.vSto, DL.gV, DL.gT, DL.vRng1, DL.vRng2, DL.vYes, DL.vLc, DL.vCall, DL.vAttr, DL.vIsi, DL.vMk0, DL.vMkX, endsD, endsI, startI, isInsA, putD, capS, List.getElem?_cons_zero, List.getElem?_cons_succ, List.set_cons_zero, List.set_cons_succ, frz, frz1, wipeS, setN, noOwn, DL.isNon, Bool.not_true, Bool.not_false, List.length_cons, List.length_nil, List.map]
    refine ⟨fun i ss => ∃ a, ss = [.v (.lst (intsL ns)), .v (.int (indexOf (ns.take i))), a], ⟨_, rfl⟩, ?_, ?_⟩
    · rintro i d ss hd ⟨a, rfl⟩
      obtain ⟨b, hb, rfl⟩ := (show ∃ b, ns[i]? = some b ∧ D.int b = d by
        unfold intsL at hd
        rw [List.getElem?_map] at hd
        exact Option.map_eq_some_iff.mp hd)
      dsimp only [DL.vAsg, DL.vFor, DL.vSeqI, DL.vNeg, DL.vPar, DL.vDct, DL.rMem, DL.vEnum, DL.vRepL, DL.vRepr, DL.rRepr, DL.vIsiT, DL.vCallK, DL.vLenS, DL.vRaiX, DL.vRai0, DL.vFld, DL.rMulA, DL.rEqO, DL.rNeO, DL.vTryAs, DL.vCallW, DL.vCallH, DL.vBorL, DL.vStar, DL.vRev, DL.rRev, DL.vZip, DL.items2, DL.seqOf, DL.vAsgO, DL.vNilO, DL.vConsO, DL.vOwnO, DL.setO, DL.rSumA, DL.vBoxI, DL.vBoxS, DL.vCells, DL.vPopOr, DL.vScr, DL.vV, DL.vC, DL.vOp, DL.isB, DL.vTest, DL.vAnd, DL.vOr, DL.vNot, DL.vAndV, DL.vOrV, DL.vNotV, DL.vIf, DL.isNon, DL.vIsN, DL.vNotN, DL.vNil, DL.vCons, DL.vTup, DL.vLst, DL.rAdd, DL.rSub, DL.rMul, DL.rInt, DL.rDiv, DL.rMod, DL.rPow, DL.rShl, DL.rLt, DL.rLe, DL.rGt, DL.rGe, DL.vChain, DL.rEqS, DL.rNeS, DL.rIx, DL.vIx, DL.vNoPart, DL.isI, DL.vPart, DL.rSl, DL.vSl, DL.vCB, DL.rLen, DL.rAbs, DL.rMax2, DL.rMin2, DL.rIntOf, DL.rListOf, DL.rTupleOf, DL.vNext, DL.vSeq, DL.vBreak, DL.vCont, DL.vNever, DL.vFrz, DL.vBor, DL.vBorT, DL.vSet, DL.vDrop, DL.vRet, DL.vRetN, DL.vIfS, DL.vNew, DL.vOwn, DL.isL, DL.isIn, DL.isOwnL, DL.vApp, DL.vSto, DL.gV, DL.gT, DL.vRng1, DL.vRng2, DL.vYes, DL.vLc, DL.vCall, DL.vAttr, DL.vIsi, DL.vMk0, DL.vMkX, endsD, endsI, startI, isInsA, putD, capS, List.getElem?_cons_zero, List.getElem?_cons_succ, List.set_cons_zero, List.set_cons_succ, frz, frz1, wipeS, setN, noOwn, DL.isNon, Bool.not_true, Bool.not_false, List.length_cons, List.length_nil, List.map]
      refine ⟨.inl ⟨by decide, by decide⟩, .v (.int b), ?_⟩
      unfold indexOf
      rw [← fold_step _ _ hb]
    · rintro ss ⟨a, rfl⟩
      unfold intsL
      rw [List.length_map, List.take_length]
      exact hq
  | tup l =>
    cases hd
    dsimp only [DL.vAsg, DL.vFor, DL.vSeqI, DL.vNeg, DL.vPar, DL.vDct, DL.rMem, DL.vEnum, DL.vRepL, DL.vRepr, DL.rRepr, DL.vIsiT, DL.vCallK, DL.vLenS, DL.vRaiX, DL.vRai0, DL.vFld, DL.rMulA, DL.rEqO, DL.rNeO, DL.vTryAs, DL.vCallW, DL.vCallH, DL.vBorL, DL.vStar, DL.vRev, DL.rRev, DL.vZip, DL.items2, DL.seqOf, DL.vAsgO, DL.vNilO, DL.vConsO, DL.vOwnO, DL.setO, DL.rSumA, DL.vBoxI, DL.vBoxS, DL.vCells, DL.vPopOr, DL.vScr, DL.vV, DL.vC, DL.vOp, DL.isB, DL.vTest, DL.vAnd, DL.vOr, DL.vNot, DL.vAndV, DL.vOrV, DL.vNotV, DL.vIf, DL.isNon, DL.vIsN, DL.vNotN, DL.vNil, DL.vCons, DL.vTup, DL.vLst, DL.rAdd, DL.rSub, DL.rMul, DL.rInt, DL.rDiv, DL.rMod, DL.rPow, DL.rShl, DL.rLt, DL.rLe, DL.rGt, DL.rGe, DL.vChain, DL.rEqS, DL.rNeS, DL.rIx, DL.vIx, DL.vNoPart, DL.isI, DL.vPart, DL.rSl, DL.vSl, DL.vCB, DL.rLen, DL.rAbs, DL.rMax2, DL.rMin2, DL.rIntOf, DL.rListOf, DL.rTupleOf, DL.vNext, DL.vSeq, DL.vBreak, DL.vCont, DL.vNever, DL.vFrz, DL.vBor, DL.vBorT, DL.vSet, DL.vDrop, DL.vRet, DL.vRetN, DL.vIfS, DL.vNew, DL.vOwn, DL.isL, DL.isIn, DL.isOwnL, DL.vApp, DL.vSto, DL.gV, DL.gT, DL.vRng1, DL.vRng2, DL.vYes, DL.vLc, DL.vCall, DL.vAttr, DL.vIsi, DL.vMk0, DL.vMkX, endsD, endsI, startI, isInsA, putD, capS, List.getElem?_cons_zero, List.getElem?_cons_succ, List.set_cons_zero, List.set_cons_succ, frz, frz1, wipeS, setN, noOwn, DL.isNon, Bool.not_true, Bool.not_false, List.length_cons, List.length_nil, List.map]
    refine ⟨fun i ss => ∃ a, ss = [.v (.tup (intsL ns)), .v (.int (indexOf (ns.take i))), a], ⟨_, rfl⟩, ?_, ?_⟩
    · rintro i d ss hd ⟨a, rfl⟩
      obtain ⟨b, hb, rfl⟩ := (show ∃ b, ns[i]? = some b ∧ D.int b = d by
        unfold intsL at hd
        rw [List.getElem?_map] at hd
        exact Option.map_eq_some_iff.mp hd)
      dsimp only [DL.vAsg, DL.vFor, DL.vSeqI, DL.vNeg, DL.vPar, DL.vDct, DL.rMem, DL.vEnum, DL.vRepL, DL.vRepr, DL.rRepr, DL.vIsiT, DL.vCallK, DL.vLenS, DL.vRaiX, DL.vRai0, DL.vFld, DL.rMulA, DL.rEqO, DL.rNeO, DL.vTryAs, DL.vCallW, DL.vCallH, DL.vBorL, DL.vStar, DL.vRev, DL.rRev, DL.vZip, DL.items2, DL.seqOf, DL.vAsgO, DL.vNilO, DL.vConsO, DL.vOwnO, DL.setO, DL.rSumA, DL.vBoxI, DL.vBoxS, DL.vCells, DL.vPopOr, DL.vScr, DL.vV, DL.vC, DL.vOp, DL.isB, DL.vTest, DL.vAnd, DL.vOr, DL.vNot, DL.vAndV, DL.vOrV, DL.vNotV, DL.vIf, DL.isNon, DL.vIsN, DL.vNotN, DL.vNil, DL.vCons, DL.vTup, DL.vLst, DL.rAdd, DL.rSub, DL.rMul, DL.rInt, DL.rDiv, DL.rMod, DL.rPow, DL.rShl, DL.rLt, DL.rLe, DL.rGt, DL.rGe, DL.vChain, DL.rEqS, DL.rNeS, DL.rIx, DL.vIx, DL.vNoPart, DL.isI, DL.vPart, DL.rSl, DL.vSl, DL.vCB, DL.rLen, DL.rAbs, DL.rMax2, DL.rMin2, DL.rIntOf, DL.rListOf, DL.rTupleOf, DL.vNext, DL.vSeq, DL.vBreak, DL.vCont, DL.vNever, DL.vFrz, DL.vBor, DL.vBorT, DL.vSet, DL.vDrop, DL.vRet, DL.vRetN, DL.vIfS, DL.vNew, DL.vOwn, DL.isL, DL.isIn, DL.isOwnL, DL.vApp, DL.vSto, DL.gV, DL.gT, DL.vRng1, DL.vRng2, DL.vYes, DL.vLc, DL.vCall, DL.vAttr, DL.vIsi, DL.vMk0, DL.vMkX, endsD, endsI, startI, isInsA, putD, capS, List.getElem?_cons_zero, List.getElem?_cons_succ, List.set_cons_zero, List.set_cons_succ, frz, frz1, wipeS, setN, noOwn, DL.isNon, Bool.not_true, Bool.not_false, List.length_cons, List.length_nil, List.map]
      refine ⟨.inl ⟨by decide, by decide⟩, .v (.int b), ?_⟩
      unfold indexOf
      rw [← fold_step _ _ hb]
    · rintro ss ⟨a, rfl⟩
      unfold intsL
      rw [List.length_map, List.take_length]
      exact hq
  | _ => cases hd
def bitsAt (legs : Nat) (index : Int) : List Int := (List.range legs).map fun (k : Nat) => index / (1 * 2 ^ (legs - 1 - k)) % 2
def c_bits_at (C : Nat → Addr) : Ctr := fun ds Q _ => ∃ (legs : Nat) (index : Int), ds = [.int legs, .int index] ∧ legs ≤ 8 ∧ Q (.tup (intsL (bitsAt legs index)))
theorem sc_bits_at : FnScope ["legs", "index", "k"] ["legs", "index"] (defScope s_bits_at) := ⟨rfl, rfl, rfl, by decide +kernel, rfl, by decide +kernel, by decide +kernel⟩
theorem ok_bits_at {f : Addr} {fd : FuncData} (F : L2.Fun K "bits_at" "bits_at" s_bits_at f fd) (M : MC Pr w K mg base C)  : FnG Pr w K mg base (L2.CX Pr w) 1 f fd ["legs", "index"] (spD (PP K C tbs) (fun _ => True) 2 (c_bits_at C)) := by
  have nd := sc_bits_at.nd
  have T := txt (tbs := tbs) M
  refine fnD (k := 0) F sc_bits_at (fun g hgp cdv A outer s H E hr hgd => (ss_one (s_ret (d_callTy c_tuple rfl M.b_tuple (by first | rfl | decide +kernel) (a_cons (DN.de (n_lc (own := [("k", 2)]) rfl nd (i_rng1 rfl M.b_range (d_var 0)) (blkOk_by (by rfl)) (fun _ _ _ _ _ => (g_name 2 nd (js := [2]))) (fun _ _ _ _ _ => ts_nil) (fun _ _ _ _ _ => (d_op o_mod (d_op o_div (d_var 1) (d_op o_shl d_int (d_op o_sub (d_op o_sub (d_var 0) d_int) (d_var 2)))) d_int)))) a_nil))))) ?_
  intro ds Qd Qx hl hc
  obtain ⟨legs, index, rfl, h8, hq⟩ := hc
  rw [show startS ["legs", "index", "k"] [.int legs, .int index] = [.v (.int legs), .v (.int index), .u] from rfl]
  dsimp only [DL.vAsg, DL.vFor, DL.vSeqI, DL.vNeg, DL.vPar, DL.vDct, DL.rMem, DL.vEnum, DL.vRepL, DL.vRepr, DL.rRepr, DL.vIsiT, DL.vCallK, DL.vLenS, DL.vRaiX, DL.vRai0, DL.vFld, DL.rMulA, DL.rEqO, DL.rNeO, DL.vTryAs, DL.vCallW, DL.vCallH, DL.vBorL, DL.vStar, DL.vRev, DL.rRev, DL.vZip, DL.items2, DL.seqOf, DL.vAsgO, DL.vNilO, DL.vConsO, DL.vOwnO, DL.setO, DL.rSumA, DL.vBoxI, DL.vBoxS, DL.vCells, DL.vPopOr, DL.vScr, DL.vV, DL.vC, DL.vOp, DL.isB, DL.vTest, DL.vAnd, DL.vOr, DL.vNot, DL.vAndV, DL.vOrV, DL.vNotV, DL.vIf, DL.isNon, DL.vIsN, DL.vNotN, DL.vNil, DL.vCons, DL.vTup, DL.vLst, DL.rAdd, DL.rSub, DL.rMul, DL.rInt, DL.rDiv, DL.rMod, DL.rPow, DL.rShl, DL.rLt, DL.rLe, DL.rGt, DL.rGe, DL.vChain, DL.rEqS, DL.rNeS, DL.rIx, DL.vIx, DL.vNoPart, DL.isI, DL.vPart, DL.rSl, DL.vSl, DL.vCB, DL.rLen, DL.rAbs, DL.rMax2, DL.rMin2, DL.rIntOf, DL.rListOf, DL.rTupleOf, DL.vNext, DL.vSeq, DL.vBreak, DL.vCont, DL.vNever, DL.vFrz, DL.vBor, DL.vBorT, DL.vSet, DL.vDrop, DL.vRet, DL.vRetN, DL.vIfS, DL.vNew, DL.vOwn, DL.isL, DL.isIn, DL.isOwnL, DL.vApp, DL.vSto, DL.gV, DL.gT, DL.vRng1, DL.vRng2, DL.vYes, DL.vLc, DL.vCall, DL.vAttr, DL.vIsi, DL.vMk0, DL.vMkX, endsD, endsI, startI, isInsA, putD, capS, List.getElem?_cons_zero, List.getElem?_cons_succ, List.set_cons_zero, List.set_cons_succ, frz, frz1, wipeS, setN, noOwn, DL.isNon, Bool.not_true, Bool.not_false, List.length_cons, List.length_nil, List.map]
  refine ⟨by simp [noOwn], ⟨by omega, by omega⟩, by rw [ints_len]; omega, fun i acc => acc = intsL ((List.range i).map fun (k : Nat) => index / (1 * 2 ^ (legs - 1 - k)) % 2), rfl, ?_, ?_⟩
  · rintro i d acc hd rfl
    obtain ⟨hi, rfl⟩ := ints_get hd
    have hi : i < legs := by omega
    dsimp only [DL.vAsg, DL.vFor, DL.vSeqI, DL.vNeg, DL.vPar, DL.vDct, DL.rMem, DL.vEnum, DL.vRepL, DL.vRepr, DL.rRepr, DL.vIsiT, DL.vCallK, DL.vLenS, DL.vRaiX, DL.vRai0, DL.vFld, DL.rMulA, DL.rEqO, DL.rNeO, DL.vTryAs, DL.vCallW, DL.vCallH, DL.vBorL, DL.vStar, DL.vRev, DL.rRev, DL.vZip, DL.items2, DL.seqOf, DL.vAsgO, DL.vNilO, DL.vConsO, DL.vOwnO, DL.setO, DL.rSumA, DL.vBoxI, DL.vBoxS, DL.vCells, DL.vPopOr, DL.vScr, DL.vV, DL.vC, DL.vOp, DL.isB, DL.vTest, DL.vAnd, DL.vOr, DL.vNot, DL.vAndV, DL.vOrV, DL.vNotV, DL.vIf, DL.isNon, DL.vIsN, DL.vNotN, DL.vNil, DL.vCons, DL.vTup, DL.vLst, DL.rAdd, DL.rSub, DL.rMul, DL.rInt, DL.rDiv, DL.rMod, DL.rPow, DL.rShl, DL.rLt, DL.rLe, DL.rGt, DL.rGe, DL.vChain, DL.rEqS, DL.rNeS, DL.rIx, DL.vIx, DL.vNoPart, DL.isI, DL.vPart, DL.rSl, DL.vSl, DL.vCB, DL.rLen, DL.rAbs, DL.rMax2, DL.rMin2, DL.rIntOf, DL.rListOf, DL.rTupleOf, DL.vNext, DL.vSeq, DL.vBreak, DL.vCont, DL.vNever, DL.vFrz, DL.vBor, DL.vBorT, DL.vSet, DL.vDrop, DL.vRet, DL.vRetN, DL.vIfS, DL.vNew, DL.vOwn, DL.isL, DL.isIn, DL.isOwnL, DL.vApp, DL.vSto, DL.gV, DL.gT, DL.vRng1, DL.vRng2, DL.vYes, DL.vLc, DL.vCall, DL.vAttr, DL.vIsi, DL.vMk0, DL.vMkX, endsD, endsI, startI, isInsA, putD, capS, List.getElem?_cons_zero, List.getElem?_cons_succ, List.set_cons_zero, List.set_cons_succ, frz, frz1, wipeS, setN, noOwn, DL.isNon, Bool.not_true, Bool.not_false, List.length_cons, List.length_nil, List.map]
    have e : ((legs : Int) - 1 - (0 + (i : Int))).toNat = legs - 1 - i := by omega
    rw [e]
    refine ⟨⟨by omega, by omega, by decide⟩, pow8 (by omega), by decide, ?_⟩
    unfold intsL
    rw [← rm_step, List.map_append]
    rfl
  · rintro acc rfl
    rw [ints_len]
    exact hq
theorem prime_in {p : Int} (h : primeI p = true) : 3 ≤ p ∧ p ≤ 97 := by
  unfold primeI at h
  simp only [Bool.and_eq_true, decide_eq_true_eq] at h
  exact h.1
theorem pow256 {n : Nat} (h : n ≤ 8) : 2 ^ n ≤ 256 := by
  have := Nat.pow_le_pow_right (show 0 < 2 by decide) h
  exact this
theorem pow_int (n : Nat) : (1 : Int) * 2 ^ ((n : Int)).toNat = ((2 ^ n : Nat) : Int) := by
  rw [Int.one_mul, Int.toNat_natCast, Int.natCast_pow]
  rfl
theorem legs_pow {n : Nat} (h : n ≤ 8) : legsOf ((2 ^ n : Nat) : Int) = .int n := by
  have : n = 0 ∨ n = 1 ∨ n = 2 ∨ n = 3 ∨ n = 4 ∨ n = 5 ∨ n = 6 ∨ n = 7 ∨ n = 8 := by omega
  rcases this with rfl | rfl | rfl | rfl | rfl | rfl | rfl | rfl | rfl <;> rfl
theorem intsL_len {ns : List Int} : (intsL ns).length = ns.length := List.length_map _
theorem table_ok {p : Int} {legs : Nat} {ns : List Int} (h8 : legs ≤ 8) (hl : ns.length = 2 ^ legs) (hn : ∀ x ∈ ns, 0 ≤ x ∧ x < p) : legsOf (ns.length : Int) = .int legs ∧ isTable p (.lst (intsL ns)) = true ∧ isTable p (.tup (intsL ns)) = true := by
  have e : legsOf (ns.length : Int) = .int legs := by rw [hl]; exact legs_pow h8
  have a : ((intsL ns).all fun x => isBetw x 0 (p - 1)) = true := by
    rw [List.all_eq_true]
    intro x hx
    obtain ⟨i, hi, rfl⟩ := List.mem_map.mp hx
    have := hn i hi
    dsimp only [isBetw]
    rw [decide_eq_true this.1, decide_eq_true (by omega : i ≤ p - 1)]
    rfl
  have t : ((!isNon (legsOf ((intsL ns).length : Int))) && ((intsL ns).all fun x => isBetw x 0 (p - 1))) = true := by
    rw [intsL_len, e, a]
    rfl
  exact ⟨e, t, t⟩
theorem simp_int {ns : List Int} : simpL (intsL ns) := fun x hx => by
  obtain ⟨i, _, rfl⟩ := List.mem_map.mp hx
  exact ⟨_, rfl⟩
theorem simp_ints (ns : List Int) (h : ns.length ≤ 100000) : simpI (.lst (intsL ns)) := ⟨⟨_, rfl⟩, fun l e => by
  cases e
  exact ⟨by rw [intsL_len]; exact h, simp_int⟩⟩
theorem simp_intsT (ns : List Int) (h : ns.length ≤ 100000) : simpI (.tup (intsL ns)) := ⟨⟨_, rfl⟩, fun l e => by
  cases e
  exact ⟨by rw [intsL_len]; exact h, simp_int⟩⟩
/-- a rule made of works' worths, bit by bit -/
def c_made (C : Nat → Addr) : CtrH := fun ap ds Q Qx => ∃ (p : Int) (legs : Nat) (d : D) (ws : Nat → Int), ds = [.int p, .int legs, d] ∧ isFn d = true ∧ primeI p = true ∧ (8 < legs → Qx ⟨(C 3), [("most", .int 8)]⟩) ∧
  (legs ≤ 8 → (∀ i, i < 2 ^ legs → ∀ Q' : D → Prop, Q' (.int (ws i)) → ap d [.tup (intsL (bitsAt legs i))] Q' (fun _ => False)) ∧ Q (ruleD C p (.int legs) (intsL ((List.range (2 ^ legs)).map fun i => ws i % p))))
theorem sc_made : FnScope ["prime", "legs", "work", "index"] ["prime", "legs", "work"] (defScope s_made) := ⟨rfl, rfl, rfl, by decide +kernel, rfl, by decide +kernel, by decide +kernel⟩
theorem ok_made {f : Addr} {fd : FuncData} (F : L2.Fun K "made" "made" s_made f fd) (M : MC Pr w K mg base C) (A_Rule : FM Pr w K mg base "Rule" (C 4) 4 ["self", "prime", "table"] (spI (PP K C tbs) (fun _ => True) 2 (C 4) (c_Rule C))) (F_bits_at : FD Pr w K mg base "bits_at" 1 ["legs", "index"] (spD (PP K C tbs) (fun _ => True) 2 (c_bits_at C))) : FnG Pr w K mg base (L2.CX Pr w) 6 f fd ["prime", "legs", "work"] (spH Pr w K mg base (PP K C tbs) (fun _ => True) 3 5 (c_made C)) := by
  have nd := sc_made.nd
  have T := txt (tbs := tbs) M
  obtain ⟨_, m_MOST_LEGS⟩ := M.m_MOST_LEGS
  refine fnDH (k := 5) F sc_made (fun g hgp ap AO cdv A outer s H E hr hgd => (ss_cons (s_if (t_cmp o_gt (d_var 1) (d_gint rfl m_MOST_LEGS) (by rfl)) (ss_one (s_raiX rfl M.i_TooMany (hr.mono (by decide)) rfl M.c_TooMany (d_gint rfl m_MOST_LEGS))) ss_nil) (ss_one (s_ret (d_make A_Rule (hr.mono (by decide)) hgd rfl trivial (a_cons (d_var 0) (a_cons (DN.de (n_lc (own := [("index", 3)]) rfl nd (i_rng1 rfl M.b_range (d_op o_shl d_int (d_var 1))) (blkOk_by (by rfl)) (fun _ _ _ _ _ => (g_name 3 nd (js := [3]))) (fun _ _ _ _ _ => ts_nil) (fun _ _ _ _ _ => (d_op o_mod (d_callW AO (hr.mono (by decide)) hgd 2 (a_cons (d_callF F_bits_at (hr.mono (by decide)) hgd rfl trivial (a_cons (d_var 1) (a_cons (d_var 3) a_nil))) a_nil)) (d_var 0))))) a_nil))))))) ?_
  intro ap ds Qd Qx hl hc
  obtain ⟨p, legs, d, ws, rfl, hfn, hp, h9, h8⟩ := hc
  rw [show startS ["prime", "legs", "work", "index"] [.int p, .int legs, d] = [.v (.int p), .v (.int legs), .v d, .u] from rfl]
  dsimp only [DL.vAsg, DL.vFor, DL.vSeqI, DL.vNeg, DL.vPar, DL.vDct, DL.vEnum, DL.vRepL, DL.vRepr, DL.rRepr, DL.vIsiT, DL.vCallK, DL.vLenS, DL.vRaiX, DL.vRai0, DL.vFld, DL.rMulA, DL.rEqO, DL.rNeO, DL.vTryAs, DL.vCallW, DL.vCallH, DL.vBorL, DL.vStar, DL.vRev, DL.rRev, DL.vZip, DL.items2, DL.seqOf, DL.vAsgO, DL.vNilO, DL.vConsO, DL.vOwnO, DL.setO, DL.rSumA, DL.vBoxI, DL.vBoxS, DL.vCells, DL.vPopOr, DL.vScr, DL.vV, DL.vC, DL.vOp, DL.isB, DL.vTest, DL.vAnd, DL.vOr, DL.vNot, DL.vAndV, DL.vOrV, DL.vNotV, DL.vIf, DL.isNon, DL.vIsN, DL.vNotN, DL.vNil, DL.vCons, DL.vTup, DL.vLst, DL.rAdd, DL.rSub, DL.rMul, DL.rInt, DL.rDiv, DL.rMod, DL.rPow, DL.rShl, DL.rLt, DL.rLe, DL.rGt, DL.rGe, DL.vChain, DL.rIx, DL.vIx, DL.vNoPart, DL.isI, DL.vPart, DL.rSl, DL.vSl, DL.vCB, DL.rLen, DL.rAbs, DL.rMax2, DL.rMin2, DL.rIntOf, DL.rListOf, DL.rTupleOf, DL.vNext, DL.vSeq, DL.vBreak, DL.vCont, DL.vNever, DL.vFrz, DL.vBor, DL.vBorT, DL.vSet, DL.vDrop, DL.vRet, DL.vRetN, DL.vIfS, DL.vNew, DL.vOwn, DL.isL, DL.isIn, DL.isOwnL, DL.vApp, DL.vSto, DL.gV, DL.gT, DL.vRng1, DL.vRng2, DL.vYes, DL.vLc, DL.vCall, DL.vAttr, DL.vIsi, DL.vMk0, DL.vMkX, endsD, endsI, startI, isInsA, putD, capS, List.getElem?_cons_zero, List.getElem?_cons_succ, List.set_cons_zero, List.set_cons_succ, frz, frz1, wipeS, setN, noOwn, DL.isNon, Bool.not_true, Bool.not_false, List.length_cons, List.length_nil, List.map, c_Rule, c_bits_at]
  obtain ⟨hp3, hp97⟩ := prime_in hp
  have eI := pow_int legs
  have e2 : (((2 ^ legs : Nat) : Int)).toNat = 2 ^ legs := Int.toNat_natCast _
  rw [eI]
  refine ⟨trivial, mb _ (fun h => ?_) (fun h => ?_)⟩
  · exact h9 (by have := of_decide_eq_true h; omega)
  have h8' : legs ≤ 8 := by have := of_decide_eq_false h; omega
  obtain ⟨hap, hq⟩ := h8 h8'
  replace h8 := h8'
  have p256 := pow256 h8
  refine ⟨⟨trivial, trivial⟩, ⟨by omega, by omega, by decide⟩, by omega, by rw [ints_len]; omega, fun i acc => acc = intsL ((List.range i).map fun i => ws i % p), rfl, ?_, ?_⟩
  · rintro i d2 acc hd rfl
    obtain ⟨hi, rfl⟩ := ints_get hd
    rw [Int.zero_add]
    refine ⟨hfn, rfl, legs, i, rfl, h8, hap i (by omega) _ ?_⟩
    refine ⟨by omega, ?_⟩
    show _ = intsL ((List.range (i + 1)).map fun i => ws i % p)
    unfold intsL
    rw [← rm_step, List.map_append]
    rfl
  · rintro acc rfl
    rw [ints_len, e2]
    have hl : ((List.range (2 ^ legs)).map fun i => ws i % p).length = 2 ^ legs := by rw [List.length_map, List.length_range]
    have hn : ∀ x ∈ ((List.range (2 ^ legs)).map fun i => ws i % p), 0 ≤ x ∧ x < p := fun x hx => by
      obtain ⟨i, _, rfl⟩ := List.mem_map.mp hx
      exact ⟨Int.emod_nonneg _ (by omega), Int.emod_lt_of_pos _ (by omega)⟩
    obtain ⟨h1, h2⟩ := table_ok h8 hl hn
    refine ⟨rfl, _, _, _, rfl, rfl, fun z => ?_, fun p' ep _ => ?_⟩
    · have z : primeI p = false := z
      rw [hp] at z
      cases z
    · cases ep
      refine ⟨simp_ints _ (by omega), fun z => ?_, fun l el _ => ?_⟩
      · rw [h2.1] at z
        cases z
      · cases el
        rw [intsL_len, h1]
        exact hq

end K03

set_option maxRecDepth 100000
set_option maxHeartbeats 8000000
namespace K03
open PySem PySem.Spec PyProof.Rows L2 LamX NdefX DLX DL
variable {Pr : Program} {w : World} {K : PySem.W.Frag} {mg : Str → Option Value} {base : Heap} {P : Gl0}
variable {C tbs : Nat → Addr}
theorem bits01 {legs : Nat} {index x : Int} (h : x ∈ bitsAt legs index) : 0 ≤ x ∧ x ≤ 1 := by
  obtain ⟨k, _, rfl⟩ := List.mem_map.mp h
  exact ⟨Int.emod_nonneg _ (by decide), by have := Int.emod_lt_of_pos (index / (1 * 2 ^ (legs - 1 - k))) (show (0 : Int) < 2 by decide); omega⟩
theorem sum01 : ∀ {l : List Int}, (∀ x ∈ l, 0 ≤ x ∧ x ≤ 1) → 0 ≤ l.sum ∧ l.sum ≤ l.length
  | [], _ => ⟨by decide, by decide⟩
  | x :: l, h => by
    have h1 := h x (List.mem_cons_self ..)
    have h2 := sum01 (l := l) fun y hy => h y (List.mem_cons_of_mem _ hy)
    rw [List.sum_cons, List.length_cons]
    constructor <;> omega
theorem bitsAt_len {legs : Nat} {index : Int} : (bitsAt legs index).length = legs := by
  unfold bitsAt
  rw [List.length_map, List.length_range]
theorem bitsAt_sum (legs : Nat) (index : Int) : 0 ≤ (bitsAt legs index).sum ∧ (bitsAt legs index).sum ≤ legs := by
  have h := sum01 (l := bitsAt legs index) fun x hx => bits01 hx
  rwa [bitsAt_len] at h
theorem atI_getD {ns : List Int} {i : Int} (h0 : 0 ≤ i) (h1 : i < ns.length) : L2.atI ns i = some (ns.getD i.toNat 0) := by
  rw [DL.atI_nat h0 h1, List.getD_eq_getElem?_getD, List.getElem?_eq_getElem (by omega)]
  rfl

end K03

set_option maxRecDepth 100000
set_option maxHeartbeats 8000000
namespace K03
open PySem PySem.Spec PyProof.Rows L2 LamX NdefX DLX DL
variable {Pr : Program} {w : World} {K : PySem.W.Frag} {mg : Str → Option Value} {base : Heap} {P : Gl0}
variable {C tbs : Nat → Addr}
/-! ### the law's helpers -/
theorem sc__law_caught : FnScope ["work", "caught", "error"] ["work"] (defScope s_law_caught) := ⟨rfl, rfl, rfl, by decide +kernel, rfl, by decide +kernel, by decide +kernel⟩
theorem ok__law_caught {f : Addr} {fd : FuncData} (F : L2.Fun K "_law_caught" "_law_caught" s_law_caught f fd) (M : MC Pr w K mg base C)  : FnG Pr w K mg base (L2.CX Pr w) 11 f fd ["work"] (spH Pr w K mg base (PP K C tbs) (gpD K) 1 10 (cCaught (excP C))) := by
  have nd := sc__law_caught.nd
  have T := txt (tbs := tbs) M
  refine fnDH (k := 10) F sc__law_caught (fun g hgp ap AO cdv A outer s H E hr hgd => (ss_cons (s_set 1 nd d_non) (ss_cons (s_tryAs (isaP (excP C)) 2 rfl rfl nd ⟨rfl, by decide, .inl M.c_BasisError⟩ (hisa M.exc M.e_BasisError) (fun pn xe _ => (ss_one (s_expr (d_callW0 AO (hr.mono (by decide)) hgd 0)))) (fun a pn => (ss_one (s_set 1 nd (d_var 2))))) (ss_one (s_ret (d_var 1)))))) ?_
  intro ap ds Qd Qx hl hc
  obtain ⟨d, rfl, hfn, hap⟩ := hc
  rw [show startS ["work", "caught", "error"] [d] = [.v d, .u, .u] from rfl]
  dsimp only [DL.vAsg, DL.vFor, DL.vSeqI, DL.vNeg, DL.vPar, DL.vDct, DL.rMem, DL.vEnum, DL.vRepL, DL.vRepr, DL.rRepr, DL.vIsiT, DL.vCallK, DL.vLenS, DL.vRaiX, DL.vRai0, DL.vFld, DL.rMulA, DL.rEqO, DL.rNeO, DL.vTryAs, DL.vCallW, DL.vCallH, DL.vBorL, DL.vStar, DL.vRev, DL.rRev, DL.vZip, DL.items2, DL.seqOf, DL.vAsgO, DL.vNilO, DL.vConsO, DL.vOwnO, DL.setO, DL.rSumA, DL.vBoxI, DL.vBoxS, DL.vCells, DL.vPopOr, DL.vScr, DL.vV, DL.vC, DL.vOp, DL.isB, DL.vTest, DL.vAnd, DL.vOr, DL.vNot, DL.vAndV, DL.vOrV, DL.vNotV, DL.vIf, DL.isNon, DL.vIsN, DL.vNotN, DL.vNil, DL.vCons, DL.vTup, DL.vLst, DL.rAdd, DL.rSub, DL.rMul, DL.rInt, DL.rDiv, DL.rMod, DL.rPow, DL.rShl, DL.rLt, DL.rLe, DL.rGt, DL.rGe, DL.vChain, DL.rEqS, DL.rNeS, DL.rIx, DL.vIx, DL.vNoPart, DL.isI, DL.vPart, DL.rSl, DL.vSl, DL.vCB, DL.rLen, DL.rAbs, DL.rMax2, DL.rMin2, DL.rIntOf, DL.rListOf, DL.rTupleOf, DL.vNext, DL.vSeq, DL.vBreak, DL.vCont, DL.vNever, DL.vFrz, DL.vBor, DL.vBorT, DL.vSet, DL.vDrop, DL.vRet, DL.vRetN, DL.vIfS, DL.vNew, DL.vOwn, DL.isL, DL.isIn, DL.isOwnL, DL.vApp, DL.vSto, DL.gV, DL.gT, DL.vRng1, DL.vRng2, DL.vYes, DL.vLc, DL.vCall, DL.vAttr, DL.vIsi, DL.vMk0, DL.vMkX, endsD, endsI, startI, isInsA, putD, capS, List.getElem?_cons_zero, List.getElem?_cons_succ, List.set_cons_zero, List.set_cons_succ, frz, frz1, wipeS, setN, noOwn, DL.isNon, Bool.not_true, Bool.not_false, List.length_cons, List.length_nil, List.map]
  exact ⟨hfn, hap⟩
def c__law_prime (C : Nat → Addr) : Ctr := fun ds Q _ => ds = [.box 0] ∧ ∀ p : Int, primeI p = true → Q (.int p)
theorem sc__law_prime : FnScope ["draw"] ["draw"] (defScope s_law_prime) := ⟨rfl, rfl, rfl, by decide +kernel, rfl, by decide +kernel, by decide +kernel⟩
theorem ok__law_prime {f : Addr} {fd : FuncData} (F : L2.Fun K "_law_prime" "_law_prime" s_law_prime f fd) (M : MC Pr w K mg base C) (F__law_pick : FD Pr w K mg base "_law_pick" 4 ["draw", "some"] (spD (PP K C tbs) (gpD K) 2 cPick)) : FnG Pr w K mg base (L2.CX Pr w) 5 f fd ["draw"] (spD (PP K C tbs) (gpD K) 1 (c__law_prime C)) := by
  have nd := sc__law_prime.nd
  have T := txt (tbs := tbs) M
  refine fnD (k := 4) F sc__law_prime (fun g hgp cdv A outer s H E hr hgd => (ss_one (s_ret (d_callF F__law_pick (hr.mono (by decide)) hgd rfl hgp (a_cons (d_var 0) (a_cons (d_lst (a_cons d_int (a_cons d_int (a_cons d_int (a_cons d_int (a_cons d_int (a_cons d_int (a_cons d_int (a_cons d_int (a_cons d_int (a_cons d_int a_nil))))))))))) a_nil)))))) ?_
  intro ds Qd Qx hl hc
  obtain ⟨rfl, hq⟩ := hc
  rw [show startS ["draw"] [D.box 0] = [.v (.box 0)] from rfl]
  dsimp only [DL.vAsg, DL.vFor, DL.vSeqI, DL.vNeg, DL.vPar, DL.vDct, DL.rMem, DL.vEnum, DL.vRepL, DL.vRepr, DL.rRepr, DL.vIsiT, DL.vCallK, DL.vLenS, DL.vRaiX, DL.vRai0, DL.vFld, DL.rMulA, DL.rEqO, DL.rNeO, DL.vTryAs, DL.vCallW, DL.vCallH, DL.vBorL, DL.vStar, DL.vRev, DL.rRev, DL.vZip, DL.items2, DL.seqOf, DL.vAsgO, DL.vNilO, DL.vConsO, DL.vOwnO, DL.setO, DL.rSumA, DL.vBoxI, DL.vBoxS, DL.vCells, DL.vPopOr, DL.vScr, DL.vV, DL.vC, DL.vOp, DL.isB, DL.vTest, DL.vAnd, DL.vOr, DL.vNot, DL.vAndV, DL.vOrV, DL.vNotV, DL.vIf, DL.isNon, DL.vIsN, DL.vNotN, DL.vNil, DL.vCons, DL.vTup, DL.vLst, DL.rAdd, DL.rSub, DL.rMul, DL.rInt, DL.rDiv, DL.rMod, DL.rPow, DL.rShl, DL.rLt, DL.rLe, DL.rGt, DL.rGe, DL.vChain, DL.rEqS, DL.rNeS, DL.rIx, DL.vIx, DL.vNoPart, DL.isI, DL.vPart, DL.rSl, DL.vSl, DL.vCB, DL.rLen, DL.rAbs, DL.rMax2, DL.rMin2, DL.rIntOf, DL.rListOf, DL.rTupleOf, DL.vNext, DL.vSeq, DL.vBreak, DL.vCont, DL.vNever, DL.vFrz, DL.vBor, DL.vBorT, DL.vSet, DL.vDrop, DL.vRet, DL.vRetN, DL.vIfS, DL.vNew, DL.vOwn, DL.isL, DL.isIn, DL.isOwnL, DL.vApp, DL.vSto, DL.gV, DL.gT, DL.vRng1, DL.vRng2, DL.vYes, DL.vLc, DL.vCall, DL.vAttr, DL.vIsi, DL.vMk0, DL.vMkX, endsD, endsI, startI, isInsA, putD, capS, List.getElem?_cons_zero, List.getElem?_cons_succ, List.set_cons_zero, List.set_cons_succ, frz, frz1, wipeS, setN, noOwn, DL.isNon, Bool.not_true, Bool.not_false, List.length_cons, List.length_nil, List.map, cPick]
  refine ⟨by decide, rfl, _, rfl, by simp, (show 10 < 1073741824 from by decide), fun d hd => ?_⟩
  simp only [List.mem_cons, List.not_mem_nil, or_false] at hd
  rcases hd with rfl | rfl | rfl | rfl | rfl | rfl | rfl | rfl | rfl | rfl <;> exact hq _ (by decide)
def c__law_numbers (C : Nat → Addr) : Ctr := fun ds Q _ => ∃ (p : Int) (many : Nat), ds = [.box 0, .int p, .int many] ∧ 3 ≤ p ∧ p ≤ 97 ∧ many ≤ 300 ∧ ∀ ns : List Int, ns.length = many → (∀ x ∈ ns, 0 ≤ x ∧ x < p) → Q (.lst (intsL ns))
theorem sc__law_numbers : FnScope ["draw", "prime_here", "many", "k"] ["draw", "prime_here", "many"] (defScope s_law_numbers) := ⟨rfl, rfl, rfl, by decide +kernel, rfl, by decide +kernel, by decide +kernel⟩
theorem ok__law_numbers {f : Addr} {fd : FuncData} (F : L2.Fun K "_law_numbers" "_law_numbers" s_law_numbers f fd) (M : MC Pr w K mg base C) (F__law_pick : FD Pr w K mg base "_law_pick" 4 ["draw", "some"] (spD (PP K C tbs) (gpD K) 2 cPick)) (F__law_take : FD Pr w K mg base "_law_take" 3 ["draw", "amount"] (spD (PP K C tbs) (gpD K) 2 cTake)) : FnG Pr w K mg base (L2.CX Pr w) 5 f fd ["draw", "prime_here", "many"] (spD (PP K C tbs) (gpD K) 3 (c__law_numbers C)) := by
  have nd := sc__law_numbers.nd
  have T := txt (tbs := tbs) M
  refine fnD (k := 4) F sc__law_numbers (fun g hgp cdv A outer s H E hr hgd => (ss_one (s_ret (DN.de (n_lc (own := [("k", 3)]) rfl nd (i_rng1 rfl M.b_range (d_var 2)) (blkOk_by (by rfl)) (fun _ _ _ _ _ => (g_name 3 nd (js := [3]))) (fun _ _ _ _ _ => ts_nil) (fun _ _ _ _ _ => (d_callF F__law_pick (hr.mono (by decide)) hgd rfl hgp (a_cons (d_var 0) (a_cons (d_lst (a_cons d_int (a_cons d_int (a_cons (d_op o_sub (d_var 1) d_int) (a_cons (d_callF F__law_take (hr.mono (by decide)) hgd rfl hgp (a_cons (d_var 0) (a_cons (d_var 1) a_nil))) a_nil))))) a_nil))))))))) ?_
  intro ds Qd Qx hl hc
  obtain ⟨p, many, rfl, hp3, hp97, hm, hq⟩ := hc
  rw [show startS ["draw", "prime_here", "many", "k"] [D.box 0, .int p, .int many] = [.v (.box 0), .v (.int p), .v (.int many), .u] from rfl]
  dsimp only [DL.vAsg, DL.vFor, DL.vSeqI, DL.vNeg, DL.vPar, DL.vDct, DL.rMem, DL.vEnum, DL.vRepL, DL.vRepr, DL.rRepr, DL.vIsiT, DL.vCallK, DL.vLenS, DL.vRaiX, DL.vRai0, DL.vFld, DL.rMulA, DL.rEqO, DL.rNeO, DL.vTryAs, DL.vCallW, DL.vCallH, DL.vBorL, DL.vStar, DL.vRev, DL.rRev, DL.vZip, DL.items2, DL.seqOf, DL.vAsgO, DL.vNilO, DL.vConsO, DL.vOwnO, DL.setO, DL.rSumA, DL.vBoxI, DL.vBoxS, DL.vCells, DL.vPopOr, DL.vScr, DL.vV, DL.vC, DL.vOp, DL.isB, DL.vTest, DL.vAnd, DL.vOr, DL.vNot, DL.vAndV, DL.vOrV, DL.vNotV, DL.vIf, DL.isNon, DL.vIsN, DL.vNotN, DL.vNil, DL.vCons, DL.vTup, DL.vLst, DL.rAdd, DL.rSub, DL.rMul, DL.rInt, DL.rDiv, DL.rMod, DL.rPow, DL.rShl, DL.rLt, DL.rLe, DL.rGt, DL.rGe, DL.vChain, DL.rEqS, DL.rNeS, DL.rIx, DL.vIx, DL.vNoPart, DL.isI, DL.vPart, DL.rSl, DL.vSl, DL.vCB, DL.rLen, DL.rAbs, DL.rMax2, DL.rMin2, DL.rIntOf, DL.rListOf, DL.rTupleOf, DL.vNext, DL.vSeq, DL.vBreak, DL.vCont, DL.vNever, DL.vFrz, DL.vBor, DL.vBorT, DL.vSet, DL.vDrop, DL.vRet, DL.vRetN, DL.vIfS, DL.vNew, DL.vOwn, DL.isL, DL.isIn, DL.isOwnL, DL.vApp, DL.vSto, DL.gV, DL.gT, DL.vRng1, DL.vRng2, DL.vYes, DL.vLc, DL.vCall, DL.vAttr, DL.vIsi, DL.vMk0, DL.vMkX, endsD, endsI, startI, isInsA, putD, capS, List.getElem?_cons_zero, List.getElem?_cons_succ, List.set_cons_zero, List.set_cons_succ, frz, frz1, wipeS, setN, noOwn, DL.isNon, Bool.not_true, Bool.not_false, List.length_cons, List.length_nil, List.map, cPick, cTake]
  refine ⟨by simp [noOwn], ⟨by omega, by omega⟩, by rw [ints_len]; omega, fun i acc => ∃ ns : List Int, acc = intsL ns ∧ ns.length = i ∧ ∀ x ∈ ns, 0 ≤ x ∧ x < p, ⟨[], rfl, rfl, fun x h => by cases h⟩, ?_, ?_⟩
  · rintro i d acc hd ⟨ns, rfl, hl, hn⟩
    refine ⟨rfl, p, rfl, by omega, by omega, fun k k0 k1 => ?_⟩
    refine ⟨by decide, rfl, _, rfl, by simp, (show 4 < 1073741824 from by decide), fun d hd => ?_⟩
    obtain ⟨x, rfl, h0, h1⟩ : ∃ x : Int, d = .int x ∧ 0 ≤ x ∧ x < p := by
      simp only [List.mem_cons, List.not_mem_nil, or_false] at hd
      rcases hd with rfl | rfl | rfl | rfl
      · exact ⟨_, rfl, by omega, by omega⟩
      · exact ⟨_, rfl, by omega, by omega⟩
      · exact ⟨_, rfl, by omega, by omega⟩
      · exact ⟨_, rfl, k0, k1⟩
    refine ⟨ns ++ [x], by unfold intsL; rw [List.map_append]; rfl, by rw [List.length_append, hl]; rfl, fun y hy => ?_⟩
    rcases List.mem_append.mp hy with hy | hy
    · exact hn y hy
    · cases List.mem_singleton.mp hy
      exact ⟨h0, h1⟩
  · rintro acc ⟨ns, rfl, hl, hn⟩
    rw [ints_len] at hl
    exact hq ns (by omega) hn
def c__law_bits (C : Nat → Addr) : Ctr := fun ds Q _ => ∃ (number : Int) (many : Nat), ds = [.int number, .int many] ∧ many ≤ 8 ∧ Q (.tup (intsL (bitsAt many number)))
theorem sc__law_bits : FnScope ["number", "many", "k"] ["number", "many"] (defScope s_law_bits) := ⟨rfl, rfl, rfl, by decide +kernel, rfl, by decide +kernel, by decide +kernel⟩
theorem ok__law_bits {f : Addr} {fd : FuncData} (F : L2.Fun K "_law_bits" "_law_bits" s_law_bits f fd) (M : MC Pr w K mg base C)  : FnG Pr w K mg base (L2.CX Pr w) 1 f fd ["number", "many"] (spD (PP K C tbs) (fun _ => True) 2 (c__law_bits C)) := by
  have nd := sc__law_bits.nd
  have T := txt (tbs := tbs) M
  refine fnD (k := 0) F sc__law_bits (fun g hgp cdv A outer s H E hr hgd => (ss_one (s_ret (d_callTy c_tuple rfl M.b_tuple (by first | rfl | decide +kernel) (a_cons (DN.de (n_lc (own := [("k", 2)]) rfl nd (i_rng1 rfl M.b_range (d_var 1)) (blkOk_by (by rfl)) (fun _ _ _ _ _ => (g_name 2 nd (js := [2]))) (fun _ _ _ _ _ => ts_nil) (fun _ _ _ _ _ => (d_op o_mod (d_op o_div (d_var 0) (d_op o_shl d_int (d_callTy c_int rfl M.b_int (by first | rfl | decide +kernel) (a_cons (d_op o_sub (d_op o_sub (d_var 1) d_int) (d_var 2)) a_nil)))) d_int)))) a_nil))))) ?_
  intro ds Qd Qx hl hc
  obtain ⟨index, legs, rfl, h8, hq⟩ := hc
  rw [show startS ["number", "many", "k"] [.int index, .int legs] = [.v (.int index), .v (.int legs), .u] from rfl]
  dsimp only [DL.vAsg, DL.vFor, DL.vSeqI, DL.vNeg, DL.vPar, DL.vDct, DL.rMem, DL.vEnum, DL.vRepL, DL.vRepr, DL.rRepr, DL.vIsiT, DL.vCallK, DL.vLenS, DL.vRaiX, DL.vRai0, DL.vFld, DL.rMulA, DL.rEqO, DL.rNeO, DL.vTryAs, DL.vCallW, DL.vCallH, DL.vBorL, DL.vStar, DL.vRev, DL.rRev, DL.vZip, DL.items2, DL.seqOf, DL.vAsgO, DL.vNilO, DL.vConsO, DL.vOwnO, DL.setO, DL.rSumA, DL.vBoxI, DL.vBoxS, DL.vCells, DL.vPopOr, DL.vScr, DL.vV, DL.vC, DL.vOp, DL.isB, DL.vTest, DL.vAnd, DL.vOr, DL.vNot, DL.vAndV, DL.vOrV, DL.vNotV, DL.vIf, DL.isNon, DL.vIsN, DL.vNotN, DL.vNil, DL.vCons, DL.vTup, DL.vLst, DL.rAdd, DL.rSub, DL.rMul, DL.rInt, DL.rDiv, DL.rMod, DL.rPow, DL.rShl, DL.rLt, DL.rLe, DL.rGt, DL.rGe, DL.vChain, DL.rEqS, DL.rNeS, DL.rIx, DL.vIx, DL.vNoPart, DL.isI, DL.vPart, DL.rSl, DL.vSl, DL.vCB, DL.rLen, DL.rAbs, DL.rMax2, DL.rMin2, DL.rIntOf, DL.rListOf, DL.rTupleOf, DL.vNext, DL.vSeq, DL.vBreak, DL.vCont, DL.vNever, DL.vFrz, DL.vBor, DL.vBorT, DL.vSet, DL.vDrop, DL.vRet, DL.vRetN, DL.vIfS, DL.vNew, DL.vOwn, DL.isL, DL.isIn, DL.isOwnL, DL.vApp, DL.vSto, DL.gV, DL.gT, DL.vRng1, DL.vRng2, DL.vYes, DL.vLc, DL.vCall, DL.vAttr, DL.vIsi, DL.vMk0, DL.vMkX, endsD, endsI, startI, isInsA, putD, capS, List.getElem?_cons_zero, List.getElem?_cons_succ, List.set_cons_zero, List.set_cons_succ, frz, frz1, wipeS, setN, noOwn, DL.isNon, Bool.not_true, Bool.not_false, List.length_cons, List.length_nil, List.map]
  refine ⟨by simp [noOwn], ⟨by omega, by omega⟩, by rw [ints_len]; omega, fun i acc => acc = intsL ((List.range i).map fun (k : Nat) => index / (1 * 2 ^ (legs - 1 - k)) % 2), rfl, ?_, ?_⟩
  · rintro i d acc hd rfl
    obtain ⟨hi, rfl⟩ := ints_get hd
    have hi : i < legs := by omega
    dsimp only [DL.vAsg, DL.vFor, DL.vSeqI, DL.vNeg, DL.vPar, DL.vDct, DL.rMem, DL.vEnum, DL.vRepL, DL.vRepr, DL.rRepr, DL.vIsiT, DL.vCallK, DL.vLenS, DL.vRaiX, DL.vRai0, DL.vFld, DL.rMulA, DL.rEqO, DL.rNeO, DL.vTryAs, DL.vCallW, DL.vCallH, DL.vBorL, DL.vStar, DL.vRev, DL.rRev, DL.vZip, DL.items2, DL.seqOf, DL.vAsgO, DL.vNilO, DL.vConsO, DL.vOwnO, DL.setO, DL.rSumA, DL.vBoxI, DL.vBoxS, DL.vCells, DL.vPopOr, DL.vScr, DL.vV, DL.vC, DL.vOp, DL.isB, DL.vTest, DL.vAnd, DL.vOr, DL.vNot, DL.vAndV, DL.vOrV, DL.vNotV, DL.vIf, DL.isNon, DL.vIsN, DL.vNotN, DL.vNil, DL.vCons, DL.vTup, DL.vLst, DL.rAdd, DL.rSub, DL.rMul, DL.rInt, DL.rDiv, DL.rMod, DL.rPow, DL.rShl, DL.rLt, DL.rLe, DL.rGt, DL.rGe, DL.vChain, DL.rEqS, DL.rNeS, DL.rIx, DL.vIx, DL.vNoPart, DL.isI, DL.vPart, DL.rSl, DL.vSl, DL.vCB, DL.rLen, DL.rAbs, DL.rMax2, DL.rMin2, DL.rIntOf, DL.rListOf, DL.rTupleOf, DL.vNext, DL.vSeq, DL.vBreak, DL.vCont, DL.vNever, DL.vFrz, DL.vBor, DL.vBorT, DL.vSet, DL.vDrop, DL.vRet, DL.vRetN, DL.vIfS, DL.vNew, DL.vOwn, DL.isL, DL.isIn, DL.isOwnL, DL.vApp, DL.vSto, DL.gV, DL.gT, DL.vRng1, DL.vRng2, DL.vYes, DL.vLc, DL.vCall, DL.vAttr, DL.vIsi, DL.vMk0, DL.vMkX, endsD, endsI, startI, isInsA, putD, capS, List.getElem?_cons_zero, List.getElem?_cons_succ, List.set_cons_zero, List.set_cons_succ, frz, frz1, wipeS, setN, noOwn, DL.isNon, Bool.not_true, Bool.not_false, List.length_cons, List.length_nil, List.map]
    have e : ((legs : Int) - 1 - (0 + (i : Int))).toNat = legs - 1 - i := by omega
    rw [e]
    refine ⟨⟨by omega, by omega, by decide⟩, pow8 (by omega), by decide, ?_⟩
    unfold intsL
    rw [← rm_step, List.map_append]
    rfl
  · rintro acc rfl
    rw [ints_len]
    exact hq

end K03

set_option maxRecDepth 100000
set_option maxHeartbeats 8000000
namespace K03
open PySem PySem.Spec PyProof.Rows L2 LamX NdefX DLX DL
variable {Pr : Program} {w : World} {K : PySem.W.Frag} {mg : Str → Option Value} {base : Heap} {P : Gl0}
variable {C tbs : Nat → Addr}
/-! ### repr of a rule's parts -/
theorem short_nat : ∀ n : Nat, n < 100 → ((toString ((n : Nat) : Int) : Str).length ≤ 13 ∧ ((n : Nat) : Int).natAbs.log2 < 1920 ∧ (PyData.int ((n : Nat) : Int)).weight ≤ 7) := by decide +kernel
theorem short_int {i : Int} (h0 : 0 ≤ i) (h1 : i < 100) : (toString i : Str).length ≤ 13 ∧ i.natAbs.log2 < 1920 ∧ (PyData.int i).weight ≤ 7 := by
  have h := short_nat i.toNat (by omega)
  rwa [Int.toNat_of_nonneg h0] at h
theorem intsShort_small : ∀ {ns : List Int}, (∀ x ∈ ns, 0 ≤ x ∧ x < 100) → PyData.intsShortAll 13 (ns.map PyData.int) = true
  | [], _ => rfl
  | x :: ns, h => by
    rw [List.map_cons]
    simp only [PyData.intsShortAll, PyData.intsShort, Bool.and_eq_true, decide_eq_true_eq]
    exact ⟨(short_int (h x (List.mem_cons_self ..)).1 (h x (List.mem_cons_self ..)).2).1, intsShort_small fun y hy => h y (List.mem_cons_of_mem _ hy)⟩
theorem weight_small : ∀ {ns : List Int}, (∀ x ∈ ns, 0 ≤ x ∧ x < 100) → PyData.weightAll (ns.map PyData.int) ≤ 8 * ns.length
  | [], _ => by simp [PyData.weightAll]
  | x :: ns, h => by
    rw [List.map_cons, List.length_cons]
    simp only [PyData.weightAll]
    have h1 := (short_int (h x (List.mem_cons_self ..)).1 (h x (List.mem_cons_self ..)).2).2.2
    have h2 := weight_small (ns := ns) fun y hy => h y (List.mem_cons_of_mem _ hy)
    omega
theorem toPdL_ints : ∀ ns : List Int, toPdL (intsL ns) = some (ns.map PyData.int)
  | [] => rfl
  | i :: ns => by
    show toPdL (.int i :: intsL ns) = _
    simp only [toPdL, toPd, toPdL_ints ns, List.map_cons]
theorem noListL_ints : ∀ ns : List Int, noListL (ns.map PyData.int) = true
  | [] => rfl
  | i :: ns => by simp only [List.map_cons, noListL, noList, noListL_ints ns, Bool.and_self]
/-- .. of a tuple with one number and one table -/
theorem repr_pair {p : Int} {ns : List Int} (hp : 0 ≤ p ∧ p < 100) (hl : ns.length ≤ 300) (hn : ∀ x ∈ ns, 0 ≤ x ∧ x < 100) : ∃ q : PyData, toPd (.tup [.int p, .tup (intsL ns)]) = some q ∧ q.showable = true ∧ (q.hasDict = false ∨ noList q = true) ∧ q.depth ≤ 60 ∧ q.shown.length ≤ sizeLine := by
  refine ⟨.tuple [.int p, .tuple (ns.map .int)], ?_, ?_, .inr ?_, ?_, ?_⟩
  · simp only [toPd, toPdL, toPdL_ints, Option.map_some]
  · simp only [PyData.showable, PyData.showableAll, Bool.and_true, Bool.and_eq_true, decide_eq_true_eq]
    exact ⟨(short_int hp.1 hp.2).2.1, PyData.showableAll_ints _ fun x hx => (short_int (hn x hx).1 (hn x hx).2).2.1⟩
  · simp only [noList, noListL, noListL_ints, Bool.and_self]
  · simp only [PyData.depth, PyData.depthAll, dep_ints]
    decide
  · refine Nat.le_trans (PyProof.Rows.shown_le13 ?_ ?_) (show 15728653 ≤ sizeLine from by decide)
    · unfold PyData.layable0
      simp only [PyData.canLay0, PyData.canLayAll0, lay_ints, PyData.depth, PyData.depthAll, dep_ints, PyData.weight, PyData.weightAll, Bool.and_eq_true, decide_eq_true_eq, Bool.and_true, true_and]
      have h1 := weight_small hn
      have h2 := (short_int hp.1 hp.2).2.2
      simp only [PyData.weight] at h2
      refine ⟨by decide, decide_eq_true ?_⟩
      have e : (2 : Nat) ^ 20 = 1048576 := by decide
      omega
    · simp only [PyData.intsShort, PyData.intsShortAll, Bool.and_eq_true, decide_eq_true_eq, Bool.and_true]
      exact ⟨(short_int hp.1 hp.2).1, intsShort_small hn⟩
/-- a rule that is as it should be -/
def c__law_is_rule (C : Nat → Addr) : Ctr := fun ds Q _ => ∃ (p : Int) (legs : Nat) (ns : List Int), ds = [ruleD C p (.int legs) (intsL ns), .int p, .lst (intsL ns)] ∧ legs ≤ 8 ∧ ns.length = 2 ^ legs ∧ 0 ≤ p ∧ p < 100 ∧ (∀ x ∈ ns, 0 ≤ x ∧ x < 100) ∧ Q (.bl true)
theorem sc__law_is_rule : FnScope ["thing", "prime_here", "table_here", "many", "legs_here"] ["thing", "prime_here", "table_here"] (defScope s_law_is_rule) := ⟨rfl, rfl, rfl, by decide +kernel, rfl, by decide +kernel, by decide +kernel⟩
theorem legs_only {legs j : Nat} (h8 : legs ≤ 8) (hj : j < 9) : decide ((1 : Int) * 2 ^ j = ((2 ^ legs : Nat) : Int)) = decide (j = legs) := by
  have h1 : legs = 0 ∨ legs = 1 ∨ legs = 2 ∨ legs = 3 ∨ legs = 4 ∨ legs = 5 ∨ legs = 6 ∨ legs = 7 ∨ legs = 8 := by omega
  have h2 : j = 0 ∨ j = 1 ∨ j = 2 ∨ j = 3 ∨ j = 4 ∨ j = 5 ∨ j = 6 ∨ j = 7 ∨ j = 8 := by omega
  rcases h1 with rfl | rfl | rfl | rfl | rfl | rfl | rfl | rfl | rfl <;> rcases h2 with rfl | rfl | rfl | rfl | rfl | rfl | rfl | rfl | rfl <;> decide
theorem ok__law_is_rule {f : Addr} {fd : FuncData} (F : L2.Fun K "_law_is_rule" "_law_is_rule" s_law_is_rule f fd) (M : MC Pr w K mg base C)  : FnG Pr w K mg base (L2.CX Pr w) 2 f fd ["thing", "prime_here", "table_here"] (spD (PP K C tbs) (fun _ => True) 3 (c__law_is_rule C)) := by
  have nd := sc__law_is_rule.nd
  have T := txt (tbs := tbs) M
  refine fnD (k := 1) F sc__law_is_rule (fun g hgp cdv A outer s H E hr hgd => (ss_cons (s_if (t_not (t_val (d_isi T rfl M.b_isinstance (d_var 0) rfl (.own M.c_Rule)))) (ss_one (s_ret d_bl)) ss_nil) (ss_cons (s_setA (na_lc 4 (own := [("many", 3)]) rfl nd (i_rng1 rfl M.b_range d_int) (blkOk_by (by rfl)) (fun _ _ _ _ _ => (g_name 3 nd (js := [3]))) (fun _ _ _ _ _ => (ts_one (t_cmp (o_eqS hr.units) (d_op o_shl d_int (d_var 3)) (d_callB c_len rfl M.b_len (by first | rfl | decide +kernel) (a_cons (d_var 2) a_nil)) (by rfl)))) (fun _ _ _ _ _ => (d_var 3)))) (ss_one (s_ret (d_and (d_cmp (o_eqS hr.units) (d_repr (hr.mono (by decide)) hgd rfl M.b_repr (d_tup (a_cons (d_attr T (d_var 0)) (a_cons (d_attr T (d_var 0)) a_nil)))) (d_repr (hr.mono (by decide)) hgd rfl M.b_repr (d_tup (a_cons (d_var 1) (a_cons (d_callTy c_tuple rfl M.b_tuple (by first | rfl | decide +kernel) (a_cons (d_var 2) a_nil)) a_nil)))) (by rfl)) (d_one (d_cmp (o_eqS hr.units) (d_lst (a_cons (d_attr T (d_var 0)) a_nil)) (d_var 4) (by rfl))))))))) ?_
  intro ds Qd Qx hl hc
  obtain ⟨p, legs, ns, rfl, h8, hL, hp0, hp1, hn, hq⟩ := hc
  have p256 := pow256 h8
  rw [show startS ["thing", "prime_here", "table_here", "many", "legs_here"] [ruleD C p (.int legs) (intsL ns), .int p, .lst (intsL ns)] = [.v (ruleD C p (.int legs) (intsL ns)), .v (.int p), .v (.lst (intsL ns)), .u, .u] from rfl]
  dsimp only [DL.vAsg, DL.vFor, DL.vSeqI, DL.vNeg, DL.vPar, DL.vDct, DL.vEnum, DL.vRepL, DL.vRepr, DL.rRepr, DL.vIsiT, DL.vCallK, DL.vLenS, DL.vRaiX, DL.vRai0, DL.vFld, DL.rMulA, DL.rEqO, DL.rNeO, DL.vTryAs, DL.vCallW, DL.vCallH, DL.vBorL, DL.vStar, DL.vRev, DL.rRev, DL.vZip, DL.items2, DL.seqOf, DL.vAsgO, DL.vNilO, DL.vConsO, DL.vOwnO, DL.setO, DL.rSumA, DL.vBoxI, DL.vBoxS, DL.vCells, DL.vPopOr, DL.vScr, DL.vV, DL.vC, DL.vOp, DL.isB, DL.vTest, DL.vAnd, DL.vOr, DL.vNot, DL.vAndV, DL.vOrV, DL.vNotV, DL.vIf, DL.isNon, DL.vIsN, DL.vNotN, DL.vNil, DL.vCons, DL.vTup, DL.vLst, DL.rAdd, DL.rSub, DL.rMul, DL.rInt, DL.rDiv, DL.rMod, DL.rPow, DL.rShl, DL.rLt, DL.rLe, DL.rGt, DL.rGe, DL.vChain, DL.rIx, DL.vIx, DL.vNoPart, DL.isI, DL.vPart, DL.rSl, DL.vSl, DL.vCB, DL.rLen, DL.rAbs, DL.rMax2, DL.rMin2, DL.rIntOf, DL.rListOf, DL.rTupleOf, DL.vNext, DL.vSeq, DL.vBreak, DL.vCont, DL.vNever, DL.vFrz, DL.vBor, DL.vBorT, DL.vSet, DL.vDrop, DL.vRet, DL.vRetN, DL.vIfS, DL.vNew, DL.vOwn, DL.isL, DL.isIn, DL.isOwnL, DL.vApp, DL.vSto, DL.gV, DL.gT, DL.vRng1, DL.vRng2, DL.vYes, DL.vLc, DL.vCall, DL.vAttr, DL.vIsi, DL.vMk0, DL.vMkX, endsD, endsI, startI, isInsA, putD, capS, List.getElem?_cons_zero, List.getElem?_cons_succ, List.set_cons_zero, List.set_cons_succ, frz, frz1, wipeS, setN, noOwn, DL.isNon, Bool.not_true, Bool.not_false, List.length_cons, List.length_nil, List.map]
  refine isi_I (b := true) rfl M.o_Rule rfl (if_pos rfl) ?_
  dsimp only [ruleD, Bool.not_true]
  obtain ⟨q, q1, q2, q3, q4, q5⟩ := repr_pair ⟨hp0, hp1⟩ (by omega) hn
  refine ⟨⟨trivial, trivial⟩, ⟨by decide, by decide⟩, by rw [ints_len]; decide, fun i acc => acc = if legs < i then [D.int legs] else [], ?_, ?_, ?_⟩
  · show [] = if legs < 0 then _ else _
    rw [if_neg (Nat.not_lt_zero _)]
  · rintro i d acc hd rfl
    obtain ⟨hi, rfl⟩ := ints_get hd
    have hi : i < 9 := hi
    rw [Int.zero_add]
    refine ⟨⟨by omega, by omega, by decide⟩, ?_⟩
    rw [intsL_len, hL]
    show (match decide ((1 : Int) * 2 ^ i = ((2 ^ legs : Nat) : Int)) with | true => _ | false => _)
    rw [legs_only h8 hi]
    by_cases e : i = legs
    · subst e
      rw [decide_eq_true rfl]
      show _ = if i < i + 1 then _ else _
      rw [if_neg (Nat.lt_irrefl _), if_pos (Nat.lt_succ_self _)]
      rfl
    · rw [decide_eq_false e]
      show (if legs < i then [D.int legs] else []) = if legs < i + 1 then _ else _
      by_cases e2 : legs < i
      · rw [if_pos e2, if_pos (by omega)]
      · rw [if_neg e2, if_neg (by omega)]
  · rintro acc rfl
    rw [ints_len, if_pos (show legs < Int.toNat 9 from by omega)]
    refine ⟨rfl, M.a_Rule_prime, some1 ⟨rfl, M.a_Rule_table, some2 (by decide) (some2 (by decide) (some1 ⟨by decide, q, q1, q2, q3, q4, q5, by decide, q, q1, q2, q3, q4, q5, ?_⟩))⟩⟩
    show (match decide (q.shown = q.shown) with | true => _ | false => _)
    rw [decide_eq_true rfl]
    refine ⟨rfl, M.a_Rule_legs, some2 (by decide) (some1 ⟨by decide, ?_⟩)⟩
    refine eq_lst_ints (ns := [(legs : Int)]) (ms := [(legs : Int)]) ?_
    rw [decide_eq_true rfl]
    exact hq

end K03

set_option maxRecDepth 100000
set_option maxHeartbeats 8000000
namespace K03
open PySem PySem.Spec PyProof.Rows L2 LamX NdefX DLX DL
variable {Pr : Program} {w : World} {K : PySem.W.Frag} {mg : Str → Option Value} {base : Heap} {P : Gl0}
variable {C tbs : Nat → Addr}
/-! ### the rules' deeds -/
theorem ab1 {b : Bool} {A : Prop} (h : b = true) (z : b = false) : A := by
  rw [h] at z
  cases z
theorem ab2 {b : Bool} {A : Prop} (h : b = false) (z : b = true) : A := by
  rw [h] at z
  cases z
/-- a table of a rule -/
structure Tab (p : Int) (legs : Nat) (ns : List Int) : Prop where
  prime : primeI p = true
  l8 : legs ≤ 8
  len : ns.length = 2 ^ legs
  inn : ∀ x ∈ ns, 0 ≤ x ∧ x < p
theorem rule_mk {p : Int} {legs : Nat} {ns : List Int} {Q : D → Prop} {Qx : Err → Prop} (t : Tab p legs ns) (q : Q (ruleD C p (.int legs) (intsL ns))) : c_Rule C [.int p, .lst (intsL ns)] Q Qx ∧ c_Rule C [.int p, .tup (intsL ns)] Q Qx := by
  obtain ⟨hp, h8, hL, hn⟩ := t
  obtain ⟨h1, h2⟩ := table_ok h8 hL hn
  have p256 := pow256 h8
  have key : ∀ d, simpI d → items d = some (intsL ns) → isTable p d = true → c_Rule C [.int p, d] Q Qx := fun d s1 s2 s3 => by
    refine ⟨_, _, _, rfl, rfl, fun z => ab1 hp z, fun p' ep _ => ?_⟩
    cases ep
    refine ⟨s1, fun z => ab1 s3 z, fun l el _ => ?_⟩
    rw [s2] at el
    cases el
    rw [intsL_len, h1]
    exact q
  exact ⟨key _ (simp_ints _ (by omega)) rfl h2.1, key _ (simp_intsT _ (by omega)) rfl h2.2⟩
section
variable {p : Int} {legs : D} {ns : List Int} {Q : D → Prop}
theorem attr_prime (M : MC Pr w K mg base C) (q : Q (.int p)) : vAttr (PP K C tbs) "prime" (vC (ruleD C p legs (intsL ns))) [] Q (fun _ _ => False) := by
  dsimp only [DL.vAttr, DL.vC, ruleD]
  exact ⟨rfl, M.a_Rule_prime, some1 q⟩
theorem attr_legs (M : MC Pr w K mg base C) (q : Q legs) : vAttr (PP K C tbs) "legs" (vC (ruleD C p legs (intsL ns))) [] Q (fun _ _ => False) := by
  dsimp only [DL.vAttr, DL.vC, ruleD]
  exact ⟨rfl, M.a_Rule_legs, some2 (by decide) (some1 q)⟩
theorem attr_table (M : MC Pr w K mg base C) (q : Q (.tup (intsL ns))) : vAttr (PP K C tbs) "table" (vC (ruleD C p legs (intsL ns))) [] Q (fun _ _ => False) := by
  dsimp only [DL.vAttr, DL.vC, ruleD]
  exact ⟨rfl, M.a_Rule_table, some2 (by decide) (some2 (by decide) (some1 q))⟩
theorem if_hide {c : TB} {t u : TSt} {N : DEnds} {ss : SS} (h : ∀ A : TSt, A = t → ∀ B : TSt, B = u → vIfS c A B N ss) : vIfS c t u N ss := h t rfl u rfl
end
def c_at (C : Nat → Addr) : Ctr := fun ds Q _ => ∃ (p : Int) (legs d : D) (ns bs : List Int) (x : Int), ds = [ruleD C p legs (intsL ns), d] ∧ items d = some (intsL bs) ∧ L2.atI ns (indexOf bs) = some x ∧ Q (.int x)
theorem sc_at : FnScope ["rule", "bits"] ["rule", "bits"] (defScope s_at) := ⟨rfl, rfl, rfl, by decide +kernel, rfl, by decide +kernel, by decide +kernel⟩
theorem ok_at {f : Addr} {fd : FuncData} (F : L2.Fun K "at" "at" s_at f fd) (M : MC Pr w K mg base C) (F_index_of : FD Pr w K mg base "index_of" 1 ["bits"] (spD (PP K C tbs) (fun _ => True) 1 (c_index_of C))) : FnG Pr w K mg base (L2.CX Pr w) 2 f fd ["rule", "bits"] (spD (PP K C tbs) (fun _ => True) 2 (c_at C)) := by
  have nd := sc_at.nd
  have T := txt (tbs := tbs) M
  refine fnD (k := 1) F sc_at (fun g hgp cdv A outer s H E hr hgd => (ss_one (s_ret (d_ix (d_attr T (d_var 0)) (d_callF F_index_of (hr.mono (by decide)) hgd rfl trivial (a_cons (d_var 1) a_nil)))))) ?_
  intro ds Qd Qx hl hc
  obtain ⟨p, legs, d, ns, bs, x, rfl, hd, hx, hq⟩ := hc
  rw [show startS ["rule", "bits"] [ruleD C p legs (intsL ns), d] = [.v (ruleD C p legs (intsL ns)), .v d] from rfl]
  dsimp only [DL.vAsg, DL.vFor, DL.vSeqI, DL.vNeg, DL.vPar, DL.vDct, DL.vEnum, DL.vRepL, DL.vRepr, DL.rRepr, DL.vIsiT, DL.vCallK, DL.vLenS, DL.vRaiX, DL.vRai0, DL.vFld, DL.rMulA, DL.rEqO, DL.rNeO, DL.vTryAs, DL.vCallW, DL.vCallH, DL.vBorL, DL.vStar, DL.vRev, DL.rRev, DL.vZip, DL.items2, DL.seqOf, DL.vAsgO, DL.vNilO, DL.vConsO, DL.vOwnO, DL.setO, DL.rSumA, DL.vBoxI, DL.vBoxS, DL.vCells, DL.vPopOr, DL.vScr, DL.vV, DL.vC, DL.vOp, DL.isB, DL.vTest, DL.vAnd, DL.vOr, DL.vNot, DL.vAndV, DL.vOrV, DL.vNotV, DL.vIf, DL.isNon, DL.vIsN, DL.vNotN, DL.vNil, DL.vCons, DL.vTup, DL.vLst, DL.rAdd, DL.rSub, DL.rMul, DL.rInt, DL.rDiv, DL.rMod, DL.rPow, DL.rShl, DL.rLt, DL.rLe, DL.rGt, DL.rGe, DL.vChain, DL.rIx, DL.vIx, DL.vNoPart, DL.isI, DL.vPart, DL.rSl, DL.vSl, DL.vCB, DL.rLen, DL.rAbs, DL.rMax2, DL.rMin2, DL.rIntOf, DL.rListOf, DL.rTupleOf, DL.vNext, DL.vSeq, DL.vBreak, DL.vCont, DL.vNever, DL.vFrz, DL.vBor, DL.vBorT, DL.vSet, DL.vDrop, DL.vRet, DL.vRetN, DL.vIfS, DL.vNew, DL.vOwn, DL.isL, DL.isIn, DL.isOwnL, DL.vApp, DL.vSto, DL.gV, DL.gT, DL.vRng1, DL.vRng2, DL.vYes, DL.vLc, DL.vCall, DL.vAttr, DL.vIsi, DL.vMk0, DL.vMkX, endsD, endsI, startI, isInsA, putD, capS, List.getElem?_cons_zero, List.getElem?_cons_succ, List.set_cons_zero, List.set_cons_succ, frz, frz1, wipeS, setN, noOwn, DL.isNon, Bool.not_true, Bool.not_false, List.length_cons, List.length_nil, List.map, c_index_of, ruleD]
  refine ⟨rfl, M.a_Rule_table, some2 (by decide) (some2 (by decide) (some1 ⟨rfl, bs, d, rfl, hd, ?_⟩))⟩
  dsimp only [DL.vAsg, DL.vFor, DL.vSeqI, DL.vNeg, DL.vPar, DL.vDct, DL.vEnum, DL.vRepL, DL.vRepr, DL.rRepr, DL.vIsiT, DL.vCallK, DL.vLenS, DL.vRaiX, DL.vRai0, DL.vFld, DL.rMulA, DL.rEqO, DL.rNeO, DL.vTryAs, DL.vCallW, DL.vCallH, DL.vBorL, DL.vStar, DL.vRev, DL.rRev, DL.vZip, DL.items2, DL.seqOf, DL.vAsgO, DL.vNilO, DL.vConsO, DL.vOwnO, DL.setO, DL.rSumA, DL.vBoxI, DL.vBoxS, DL.vCells, DL.vPopOr, DL.vScr, DL.vV, DL.vC, DL.vOp, DL.isB, DL.vTest, DL.vAnd, DL.vOr, DL.vNot, DL.vAndV, DL.vOrV, DL.vNotV, DL.vIf, DL.isNon, DL.vIsN, DL.vNotN, DL.vNil, DL.vCons, DL.vTup, DL.vLst, DL.rAdd, DL.rSub, DL.rMul, DL.rInt, DL.rDiv, DL.rMod, DL.rPow, DL.rShl, DL.rLt, DL.rLe, DL.rGt, DL.rGe, DL.vChain, DL.rIx, DL.vIx, DL.vNoPart, DL.isI, DL.vPart, DL.rSl, DL.vSl, DL.vCB, DL.rLen, DL.rAbs, DL.rMax2, DL.rMin2, DL.rIntOf, DL.rListOf, DL.rTupleOf, DL.vNext, DL.vSeq, DL.vBreak, DL.vCont, DL.vNever, DL.vFrz, DL.vBor, DL.vBorT, DL.vSet, DL.vDrop, DL.vRet, DL.vRetN, DL.vIfS, DL.vNew, DL.vOwn, DL.isL, DL.isIn, DL.isOwnL, DL.vApp, DL.vSto, DL.gV, DL.gT, DL.vRng1, DL.vRng2, DL.vYes, DL.vLc, DL.vCall, DL.vAttr, DL.vIsi, DL.vMk0, DL.vMkX, endsD, endsI, startI, isInsA, putD, capS, List.getElem?_cons_zero, List.getElem?_cons_succ, List.set_cons_zero, List.set_cons_succ, frz, frz1, wipeS, setN, noOwn, DL.isNon, Bool.not_true, Bool.not_false, List.length_cons, List.length_nil, List.map]
  unfold intsL
  rw [atI_map hx]
  exact hq
def c_need_leg (C : Nat → Addr) : Ctr := fun ds Q Qx => ∃ (p : Int) (legs : Nat) (d : D) (ns : List Int) (n : String) (part : Str), ds = [ruleD C p (.int legs) (intsL ns), d, .str part] ∧ tyS d = some n ∧ (isBetw d 0 ((legs : Int) - 1) = true → Q .non) ∧ (isBetw d 0 ((legs : Int) - 1) = false → Qx ⟨(C 1), [("part", .str part)]⟩)
theorem sc_need_leg : FnScope ["rule", "leg", "part"] ["rule", "leg", "part"] (defScope s_need_leg) := ⟨rfl, rfl, rfl, by decide +kernel, rfl, by decide +kernel, by decide +kernel⟩
theorem ok_need_leg {f : Addr} {fd : FuncData} (F : L2.Fun K "need_leg" "need_leg" s_need_leg f fd) (M : MC Pr w K mg base C) (F_is_between : FD Pr w K mg base "is_between" 2 ["thing", "low", "high"] (spD (PP K C tbs) (fun _ => True) 3 (c_is_between C))) : FnG Pr w K mg base (L2.CX Pr w) 3 f fd ["rule", "leg", "part"] (spD (PP K C tbs) (fun _ => True) 3 (c_need_leg C)) := by
  have nd := sc_need_leg.nd
  have T := txt (tbs := tbs) M
  refine fnD (k := 2) F sc_need_leg (fun g hgp cdv A outer s H E hr hgd => (ss_one (s_if (t_not (t_val (d_callF F_is_between (hr.mono (by decide)) hgd rfl trivial (a_cons (d_var 1) (a_cons d_int (a_cons (d_op o_sub (d_attr T (d_var 0)) d_int) a_nil)))))) (ss_one (s_raiX rfl M.i_BadNumber (hr.mono (by decide)) rfl M.c_BadNumber (d_var 2))) ss_nil))) ?_
  intro ds Qd Qx hl hc
  obtain ⟨p, legs, d, ns, n, part, rfl, hn, h1, h2⟩ := hc
  rw [show startS ["rule", "leg", "part"] [ruleD C p (.int legs) (intsL ns), d, .str part] = [.v (ruleD C p (.int legs) (intsL ns)), .v d, .v (.str part)] from rfl]
  dsimp only [DL.vAsg, DL.vFor, DL.vSeqI, DL.vNeg, DL.vPar, DL.vDct, DL.vEnum, DL.vRepL, DL.vRepr, DL.rRepr, DL.vIsiT, DL.vCallK, DL.vLenS, DL.vRaiX, DL.vRai0, DL.vFld, DL.rMulA, DL.rEqO, DL.rNeO, DL.vTryAs, DL.vCallW, DL.vCallH, DL.vBorL, DL.vStar, DL.vRev, DL.rRev, DL.vZip, DL.items2, DL.seqOf, DL.vAsgO, DL.vNilO, DL.vConsO, DL.vOwnO, DL.setO, DL.rSumA, DL.vBoxI, DL.vBoxS, DL.vCells, DL.vPopOr, DL.vScr, DL.vV, DL.vC, DL.vOp, DL.isB, DL.vTest, DL.vAnd, DL.vOr, DL.vNot, DL.vAndV, DL.vOrV, DL.vNotV, DL.vIf, DL.isNon, DL.vIsN, DL.vNotN, DL.vNil, DL.vCons, DL.vTup, DL.vLst, DL.rAdd, DL.rSub, DL.rMul, DL.rInt, DL.rDiv, DL.rMod, DL.rPow, DL.rShl, DL.rLt, DL.rLe, DL.rGt, DL.rGe, DL.vChain, DL.rIx, DL.vIx, DL.vNoPart, DL.isI, DL.vPart, DL.rSl, DL.vSl, DL.vCB, DL.rLen, DL.rAbs, DL.rMax2, DL.rMin2, DL.rIntOf, DL.rListOf, DL.rTupleOf, DL.vNext, DL.vSeq, DL.vBreak, DL.vCont, DL.vNever, DL.vFrz, DL.vBor, DL.vBorT, DL.vSet, DL.vDrop, DL.vRet, DL.vRetN, DL.vIfS, DL.vNew, DL.vOwn, DL.isL, DL.isIn, DL.isOwnL, DL.vApp, DL.vSto, DL.gV, DL.gT, DL.vRng1, DL.vRng2, DL.vYes, DL.vLc, DL.vCall, DL.vAttr, DL.vIsi, DL.vMk0, DL.vMkX, endsD, endsI, startI, isInsA, putD, capS, List.getElem?_cons_zero, List.getElem?_cons_succ, List.set_cons_zero, List.set_cons_succ, frz, frz1, wipeS, setN, noOwn, DL.isNon, Bool.not_true, Bool.not_false, List.length_cons, List.length_nil, List.map, c_is_between, ruleD]
  refine ⟨rfl, M.a_Rule_legs, some2 (by decide) (some1 ⟨rfl, d, n, 0, (legs : Int) - 1, rfl, hn, ?_⟩)⟩
  cases e : isBetw d 0 ((legs : Int) - 1) with
  | true => exact h1 e
  | false => exact h2 e
theorem betw_int {d : D} {lo hi : Int} (h : isBetw d lo hi = true) : ∃ i, d = .int i ∧ lo ≤ i ∧ i ≤ hi := by
  cases d with
  | int i =>
    have h : (decide (lo ≤ i) && decide (i ≤ hi)) = true := h
    rw [Bool.and_eq_true, decide_eq_true_eq, decide_eq_true_eq] at h
    exact ⟨i, rfl, h⟩
  | _ => cases h
/-! ### legs led to other places -/
def ledB (n : Nat) (ls bs : List Int) : List Int := (List.zip bs ls).foldl (fun s x => s.set x.2.toNat x.1) (List.replicate n 0)
theorem ledB_len {ls bs : List Int} {n : Nat} : (ledB n ls bs).length = n := by
  unfold ledB
  generalize hz : List.zip bs ls = z
  clear hz
  suffices h : ∀ s : List Int, (z.foldl (fun s x => s.set x.2.toNat x.1) s).length = s.length by rw [h, List.length_replicate]
  induction z with
  | nil => exact fun s => rfl
  | cons x z ih =>
    intro s
    rw [List.foldl_cons, ih, List.length_set]
theorem foldl_set01 : ∀ (z : List (Int × Int)) (s : List Int), (∀ x ∈ s, 0 ≤ x ∧ x ≤ 1) → (∀ x ∈ z, 0 ≤ x.1 ∧ x.1 ≤ 1) → ∀ x ∈ z.foldl (fun s x => s.set x.2.toNat x.1) s, 0 ≤ x ∧ x ≤ 1
  | [], s, h, _ => h
  | y :: z, s, h, hz => by
    rw [List.foldl_cons]
    refine foldl_set01 z _ (fun x hx => ?_) fun x hx => hz x (List.mem_cons_of_mem _ hx)
    rcases List.mem_or_eq_of_mem_set hx with q | q
    · exact h x q
    · rw [q]
      exact hz y (List.mem_cons_self ..)
theorem ledB01 {ls bs : List Int} {n : Nat} (h : ∀ x ∈ bs, 0 ≤ x ∧ x ≤ 1) : ∀ x ∈ ledB n ls bs, 0 ≤ x ∧ x ≤ 1 := by
  refine foldl_set01 _ _ (fun x hx => ?_) fun x hx => h x.1 (List.of_mem_zip hx).1
  rw [(List.mem_replicate.mp hx).2]
  decide
theorem idx_lt : ∀ (bs : List Int) (f : Int), (∀ x ∈ bs, 0 ≤ x ∧ x ≤ 1) → 0 ≤ f → 0 ≤ bs.foldl (fun f b => 2 * f + b) f ∧ bs.foldl (fun f b => 2 * f + b) f < (f + 1) * ((2 ^ bs.length : Nat) : Int)
  | [], f, _, h => by
    simp only [List.foldl_nil, List.length_nil]
    constructor
    · exact h
    · show f < (f + 1) * 1
      omega
  | b :: bs, f, hb, h => by
    have h1 := hb b (List.mem_cons_self ..)
    have h2 := idx_lt bs (2 * f + b) (fun x hx => hb x (List.mem_cons_of_mem _ hx)) (by omega)
    rw [List.foldl_cons, List.length_cons]
    refine ⟨h2.1, Int.lt_of_lt_of_le h2.2 ?_⟩
    have e : ((2 ^ (bs.length + 1) : Nat) : Int) = 2 * ((2 ^ bs.length : Nat) : Int) := by
      rw [Nat.pow_succ]
      push_cast
      omega
    rw [e, ← Int.mul_assoc]
    exact Int.mul_le_mul_of_nonneg_right (by omega) (Int.natCast_nonneg _)
theorem idx_in {bs : List Int} {legs : Nat} (h : ∀ x ∈ bs, 0 ≤ x ∧ x ≤ 1) (hl : bs.length = legs) : 0 ≤ indexOf bs ∧ indexOf bs < ((2 ^ legs : Nat) : Int) := by
  have := idx_lt bs 0 h (by decide)
  rw [hl] at this
  simpa [indexOf] using this
theorem getD_mem {ns : List Int} {i : Int} (h0 : 0 ≤ i) (h1 : i < ns.length) : ns.getD i.toNat 0 ∈ ns := by
  rw [List.getD_eq_getElem?_getD, List.getElem?_eq_getElem (by omega)]
  exact List.getElem_mem _
theorem fset_len : ∀ (z : List (Int × Int)) (s : List Int), (z.foldl (fun s x => s.set x.2.toNat x.1) s).length = s.length
  | [], s => rfl
  | x :: z, s => by rw [List.foldl_cons, fset_len z, List.length_set]
theorem flat_one {k : Nat} {d : D} : (List.replicate k [d]).flatten = List.replicate k d := by
  induction k with
  | zero => rfl
  | succ k ih => rw [List.replicate_succ, List.flatten_cons, ih]; rfl
theorem ints_zero {k : Nat} : List.replicate k (D.int 0) = intsL (List.replicate k 0) := by
  unfold intsL
  rw [List.map_replicate]
theorem zip_ints : ∀ (bs ls : List Int), zipD (intsL bs) (intsL ls) = (List.zip bs ls).map fun x => D.tup [.int x.1, .int x.2]
  | [], _ => rfl
  | b :: bs, [] => rfl
  | b :: bs, l :: ls => by
    show D.tup [.int b, .int l] :: zipD (intsL bs) (intsL ls) = _
    rw [zip_ints bs ls]
    rfl
theorem seq_hide {t u : TSt} {N : DEnds} {ss : SS} (h : ∀ V : TSt, V = u → t { N with nx := V N } ss) : vSeq t u N ss := h u rfl
theorem for_hide {ti : TL} {tg : TG'} {tb : TSt} {N : DEnds} {ss : SS} (h : ∀ V : TSt, V = tb → vFor ti tg V N ss) : vFor ti tg tb N ss := h tb rfl
/-- the worth at bits, of a table -/
theorem tab_at {p : Int} {legs : Nat} {ns bs : List Int} (t : Tab p legs ns) (h : ∀ x ∈ bs, 0 ≤ x ∧ x ≤ 1) (hl : bs.length = legs) : L2.atI ns (indexOf bs) = some (ns.getD (indexOf bs).toNat 0) ∧ 0 ≤ ns.getD (indexOf bs).toNat 0 ∧ ns.getD (indexOf bs).toNat 0 < p := by
  obtain ⟨h0, h1⟩ := idx_in h hl
  have tl := t.len
  have h1' : indexOf bs < ns.length := by rw [tl]; exact h1
  exact ⟨atI_getD h0 h1', t.inn _ (getD_mem h0 h1')⟩
def tabLed (legs : Nat) (ls ns : List Int) : List Int := (List.range (2 ^ legs)).map fun (i : Nat) => ns.getD (indexOf (ledB legs ls (bitsAt legs i))).toNat 0
def c_led (C : Nat → Addr) : Ctr := fun ds Q _ => ∃ (p : Int) (legs : Nat) (ns ls : List Int), ds = [ruleD C p (.int legs) (intsL ns), .lst (intsL ls)] ∧ Tab p legs ns ∧ ls.length = legs ∧ (∀ x ∈ ls, 0 ≤ x ∧ x < legs) ∧ Q (ruleD C p (.int legs) (intsL (tabLed legs ls ns)))
theorem sc_led : FnScope ["rule", "legs", "work"] ["rule", "legs"] (defScope s_led) := ⟨rfl, rfl, rfl, by decide +kernel, rfl, by decide +kernel, by decide +kernel⟩
theorem ok_led {f : Addr} {fd : FuncData} (F : L2.Fun K "led" "led" s_led f fd) (M : MC Pr w K mg base C) (F_at : FD Pr w K mg base "at" 2 ["rule", "bits"] (spD (PP K C tbs) (fun _ => True) 2 (c_at C))) (F_made : FD Pr w K mg base "made" 6 ["prime", "legs", "work"] (spH Pr w K mg base (PP K C tbs) (fun _ => True) 3 5 (c_made C))) {cA : Addr} (LT : LTab base mg (PP K C tbs) cA (nm_led)) (hfc : fd.code = .ref cA) : FnG Pr w K mg base (L2.CX Pr w) 7 f fd ["rule", "legs"] (spD (PP K C tbs) (fun _ => True) 2 (c_led C)) := by
  have nd := sc_led.nd
  have T := txt (tbs := tbs) M
  have CD := (show CloD Pr w K mg base (PP K C tbs) (fun _ => True) 4 (defScope s_led) ["rule", "legs", "work"] _ from (CloD.defn (N' := ["bits", "rule", "legs", "some", "bit", "leg"]) (ps := ["bits"]) (fr := ["rule", "legs"]) (js := [0, 1]) (n := 1) (m := 3) 0 rfl rfl (nscopeC_by (by decide +kernel)) (by decide +kernel) rfl (fun _ _ _ _ _ us hl => match us, hl with | [_], _ => rfl) (fun g hgp cl c' f A outer s H E hr hgd => (ss_cons (s_own 3 (show List.Nodup (["bits", "rule", "legs", "some", "bit", "leg"] : List Str) from by decide +kernel) (n_rep (d_lst (a_cons d_int a_nil)) (d_attr T (d_var 1)))) (ss_cons (s_for (passes_of rfl) rfl (i_zip rfl M.b_zip (a_cons (d_var 0) (a_cons (d_var 2) a_nil))) (g_two 4 5 rfl (show List.Nodup (["bits", "rule", "legs", "some", "bit", "leg"] : List Str) from by decide +kernel)) (ss_one (s_sto 3 (d_var 5) (d_var 4) (fun te tk h1 h2 => ps_asg h1 (pg_sub (pv _) h2 set_list))))) (ss_one (s_frz [3] (s_ret (d_callF F_at (hr.mono (by decide)) hgd rfl trivial (a_cons (d_var 1) (a_cons (d_var 3) a_nil))))))))) CloD.nil))
  refine fnDC (k := 6) F sc_led (fun g hgp cdv hcd A outer s H E hr hgd cs hcs => (ss_cons (s_ndef 0 2 hcs (LT.lam (hcd.symm.trans hfc)) nd rfl rfl (ndef_free (sc := defScope s_led) (fr := ["rule", "legs"]) (by decide +kernel))) (ss_one (s_ret (d_callH hcs F_made CD.frB (by decide) (hr.mono (by decide)) hgd rfl hgp (a_cons (d_attr T (d_var 0)) (a_cons (d_attr T (d_var 0)) (a_cons (d_var 2) a_nil)))))))) ?_
  intro cs ds Qd Qx hl hc
  obtain ⟨p, legs, ns, ls, rfl, t, hll, hls, hq⟩ := hc
  rw [show startS ["rule", "legs", "work"] [ruleD C p (.int legs) (intsL ns), .lst (intsL ls)] = [.v (ruleD C p (.int legs) (intsL ns)), .v (.lst (intsL ls)), .u] from rfl]
  dsimp only [DL.vAsg, DL.vFor, DL.vSeqI, DL.vNeg, DL.vPar, DL.vDct, DL.vEnum, DL.vRepL, DL.vRepr, DL.rRepr, DL.vIsiT, DL.vCallK, DL.vLenS, DL.vRaiX, DL.vRai0, DL.vFld, DL.rMulA, DL.rEqO, DL.rNeO, DL.vTryAs, DL.vCallW, DL.vCallH, DL.vBorL, DL.vStar, DL.vRev, DL.rRev, DL.vZip, DL.items2, DL.seqOf, DL.vAsgO, DL.vNilO, DL.vConsO, DL.vOwnO, DL.setO, DL.rSumA, DL.vBoxI, DL.vBoxS, DL.vCells, DL.vPopOr, DL.vScr, DL.vV, DL.vC, DL.vOp, DL.isB, DL.vTest, DL.vAnd, DL.vOr, DL.vNot, DL.vAndV, DL.vOrV, DL.vNotV, DL.vIf, DL.isNon, DL.vIsN, DL.vNotN, DL.vNil, DL.vCons, DL.vTup, DL.vLst, DL.rAdd, DL.rSub, DL.rMul, DL.rInt, DL.rDiv, DL.rMod, DL.rPow, DL.rShl, DL.rLt, DL.rLe, DL.rGt, DL.rGe, DL.vChain, DL.rIx, DL.vIx, DL.vNoPart, DL.isI, DL.vPart, DL.rSl, DL.vSl, DL.vCB, DL.rLen, DL.rAbs, DL.rMax2, DL.rMin2, DL.rIntOf, DL.rListOf, DL.rTupleOf, DL.vNext, DL.vSeq, DL.vBreak, DL.vCont, DL.vNever, DL.vFrz, DL.vBor, DL.vBorT, DL.vSet, DL.vDrop, DL.vRet, DL.vRetN, DL.vIfS, DL.vNew, DL.vOwn, DL.isL, DL.isIn, DL.isOwnL, DL.vApp, DL.vSto, DL.gV, DL.gT, DL.vRng1, DL.vRng2, DL.vYes, DL.vLc, DL.vCall, DL.vAttr, DL.vIsi, DL.vMk0, DL.vMkX, endsD, endsI, startI, isInsA, putD, capS, List.getElem?_cons_zero, List.getElem?_cons_succ, List.set_cons_zero, List.set_cons_succ, frz, frz1, wipeS, setN, noOwn, DL.isNon, Bool.not_true, Bool.not_false, List.length_cons, List.length_nil, List.map, c_made]
  have p256 := pow256 t.l8
  have pp := prime_in t.prime
  have b01 : ∀ i : Nat, ∀ x ∈ bitsAt legs i, 0 ≤ x ∧ x ≤ 1 := fun i x hx => bits01 hx
  have hw : ∀ i : Nat, ns.getD (indexOf (ledB legs ls (bitsAt legs i))).toNat 0 % p = ns.getD (indexOf (ledB legs ls (bitsAt legs i))).toNat 0 := fun i => by
    have h := (tab_at t (ledB01 (ls := ls) (n := legs) (b01 i)) ledB_len).2
    exact Int.emod_eq_of_lt h.1 h.2
  dsimp only [ruleD]
  refine ⟨rfl, M.a_Rule_prime, some1 ⟨rfl, M.a_Rule_legs, some2 (by decide) (some1 ⟨rfl, p, legs, .clo 0 cs, fun i => ns.getD (indexOf (ledB legs ls (bitsAt legs i))).toNat 0, rfl, rfl, t.prime, fun h => absurd t.l8 (by omega), fun _ => ⟨fun i hi Q' hq' => ap_clo rfl ⟨rfl, ?_⟩, ?_⟩⟩)⟩⟩
  · dsimp only [CloT.start, List.map, capS, List.getElem?_cons_zero, List.getElem?_cons_succ, List.cons_append, List.nil_append, List.replicate]
    refine seq_hide fun V1 hV1 => ?_
    dsimp only [DL.vAsg, DL.vFor, DL.vSeqI, DL.vNeg, DL.vPar, DL.vDct, DL.vEnum, DL.vRepL, DL.vRepr, DL.rRepr, DL.vIsiT, DL.vCallK, DL.vLenS, DL.vRaiX, DL.vRai0, DL.vFld, DL.rMulA, DL.rEqO, DL.rNeO, DL.vTryAs, DL.vCallW, DL.vCallH, DL.vBorL, DL.vStar, DL.vRev, DL.rRev, DL.vZip, DL.items2, DL.seqOf, DL.vAsgO, DL.vNilO, DL.vConsO, DL.vOwnO, DL.setO, DL.rSumA, DL.vBoxI, DL.vBoxS, DL.vCells, DL.vPopOr, DL.vScr, DL.vV, DL.vC, DL.vOp, DL.isB, DL.vTest, DL.vAnd, DL.vOr, DL.vNot, DL.vAndV, DL.vOrV, DL.vNotV, DL.vIf, DL.isNon, DL.vIsN, DL.vNotN, DL.vNil, DL.vCons, DL.vTup, DL.vLst, DL.rAdd, DL.rSub, DL.rMul, DL.rInt, DL.rDiv, DL.rMod, DL.rPow, DL.rShl, DL.rLt, DL.rLe, DL.rGt, DL.rGe, DL.vChain, DL.rIx, DL.vIx, DL.vNoPart, DL.isI, DL.vPart, DL.rSl, DL.vSl, DL.vCB, DL.rLen, DL.rAbs, DL.rMax2, DL.rMin2, DL.rIntOf, DL.rListOf, DL.rTupleOf, DL.vNext, DL.vSeq, DL.vBreak, DL.vCont, DL.vNever, DL.vFrz, DL.vBor, DL.vBorT, DL.vSet, DL.vDrop, DL.vRet, DL.vRetN, DL.vIfS, DL.vNew, DL.vOwn, DL.isL, DL.isIn, DL.isOwnL, DL.vApp, DL.vSto, DL.gV, DL.gT, DL.vRng1, DL.vRng2, DL.vYes, DL.vLc, DL.vCall, DL.vAttr, DL.vIsi, DL.vMk0, DL.vMkX, endsD, endsI, startI, isInsA, putD, capS, List.getElem?_cons_zero, List.getElem?_cons_succ, List.set_cons_zero, List.set_cons_succ, frz, frz1, wipeS, setN, noOwn, DL.isNon, Bool.not_true, Bool.not_false, List.length_cons, List.length_nil, List.map, ruleD]
    refine ⟨by decide, rfl, M.a_Rule_legs, some2 (by decide) (some1 ⟨⟨by have := t.l8; omega, by omega⟩, ?_, ?_⟩)⟩
    · rw [Int.toNat_natCast]
      have : 8 < sizeLine := by decide
      have := t.l8
      omega
    rw [Int.toNat_natCast, flat_one, ints_zero, hV1]
    clear hV1
    refine seq_hide fun V2 hV2 => ?_
    dsimp only [DL.vAsg, DL.vFor, DL.vSeqI, DL.vNeg, DL.vPar, DL.vDct, DL.vEnum, DL.vRepL, DL.vRepr, DL.rRepr, DL.vIsiT, DL.vCallK, DL.vLenS, DL.vRaiX, DL.vRai0, DL.vFld, DL.rMulA, DL.rEqO, DL.rNeO, DL.vTryAs, DL.vCallW, DL.vCallH, DL.vBorL, DL.vStar, DL.vRev, DL.rRev, DL.vZip, DL.items2, DL.seqOf, DL.vAsgO, DL.vNilO, DL.vConsO, DL.vOwnO, DL.setO, DL.rSumA, DL.vBoxI, DL.vBoxS, DL.vCells, DL.vPopOr, DL.vScr, DL.vV, DL.vC, DL.vOp, DL.isB, DL.vTest, DL.vAnd, DL.vOr, DL.vNot, DL.vAndV, DL.vOrV, DL.vNotV, DL.vIf, DL.isNon, DL.vIsN, DL.vNotN, DL.vNil, DL.vCons, DL.vTup, DL.vLst, DL.rAdd, DL.rSub, DL.rMul, DL.rInt, DL.rDiv, DL.rMod, DL.rPow, DL.rShl, DL.rLt, DL.rLe, DL.rGt, DL.rGe, DL.vChain, DL.rIx, DL.vIx, DL.vNoPart, DL.isI, DL.vPart, DL.rSl, DL.vSl, DL.vCB, DL.rLen, DL.rAbs, DL.rMax2, DL.rMin2, DL.rIntOf, DL.rListOf, DL.rTupleOf, DL.vNext, DL.vSeq, DL.vBreak, DL.vCont, DL.vNever, DL.vFrz, DL.vBor, DL.vBorT, DL.vSet, DL.vDrop, DL.vRet, DL.vRetN, DL.vIfS, DL.vNew, DL.vOwn, DL.isL, DL.isIn, DL.isOwnL, DL.vApp, DL.vSto, DL.gV, DL.gT, DL.vRng1, DL.vRng2, DL.vYes, DL.vLc, DL.vCall, DL.vAttr, DL.vIsi, DL.vMk0, DL.vMkX, endsD, endsI, startI, isInsA, putD, capS, List.getElem?_cons_zero, List.getElem?_cons_succ, List.set_cons_zero, List.set_cons_succ, frz, frz1, wipeS, setN, noOwn, DL.isNon, Bool.not_true, Bool.not_false, List.length_cons, List.length_nil, List.map]
    rw [zip_ints]
    refine ⟨fun k ss => ∃ a b : Sl, ss = [.v (.tup (intsL (bitsAt legs i))), .v (ruleD C p (.int legs) (intsL ns)), .v (.lst (intsL ls)), .own (.lst (intsL (((List.zip (bitsAt legs i) ls).take k).foldl (fun s x => s.set x.2.toNat x.1) (List.replicate legs 0)))), a, b], ⟨_, _, rfl⟩, ?_, ?_⟩
    · rintro k d ss hd ⟨a, b, rfl⟩
      rw [List.getElem?_map] at hd
      obtain ⟨x, hx, rfl⟩ := Option.map_eq_some_iff.mp hd
      dsimp only [DL.vAsg, DL.vFor, DL.vSeqI, DL.vNeg, DL.vPar, DL.vDct, DL.vEnum, DL.vRepL, DL.vRepr, DL.rRepr, DL.vIsiT, DL.vCallK, DL.vLenS, DL.vRaiX, DL.vRai0, DL.vFld, DL.rMulA, DL.rEqO, DL.rNeO, DL.vTryAs, DL.vCallW, DL.vCallH, DL.vBorL, DL.vStar, DL.vRev, DL.rRev, DL.vZip, DL.items2, DL.seqOf, DL.vAsgO, DL.vNilO, DL.vConsO, DL.vOwnO, DL.setO, DL.rSumA, DL.vBoxI, DL.vBoxS, DL.vCells, DL.vPopOr, DL.vScr, DL.vV, DL.vC, DL.vOp, DL.isB, DL.vTest, DL.vAnd, DL.vOr, DL.vNot, DL.vAndV, DL.vOrV, DL.vNotV, DL.vIf, DL.isNon, DL.vIsN, DL.vNotN, DL.vNil, DL.vCons, DL.vTup, DL.vLst, DL.rAdd, DL.rSub, DL.rMul, DL.rInt, DL.rDiv, DL.rMod, DL.rPow, DL.rShl, DL.rLt, DL.rLe, DL.rGt, DL.rGe, DL.vChain, DL.rIx, DL.vIx, DL.vNoPart, DL.isI, DL.vPart, DL.rSl, DL.vSl, DL.vCB, DL.rLen, DL.rAbs, DL.rMax2, DL.rMin2, DL.rIntOf, DL.rListOf, DL.rTupleOf, DL.vNext, DL.vSeq, DL.vBreak, DL.vCont, DL.vNever, DL.vFrz, DL.vBor, DL.vBorT, DL.vSet, DL.vDrop, DL.vRet, DL.vRetN, DL.vIfS, DL.vNew, DL.vOwn, DL.isL, DL.isIn, DL.isOwnL, DL.vApp, DL.vSto, DL.gV, DL.gT, DL.vRng1, DL.vRng2, DL.vYes, DL.vLc, DL.vCall, DL.vAttr, DL.vIsi, DL.vMk0, DL.vMkX, endsD, endsI, startI, isInsA, putD, capS, List.getElem?_cons_zero, List.getElem?_cons_succ, List.set_cons_zero, List.set_cons_succ, frz, frz1, wipeS, setN, noOwn, DL.isNon, Bool.not_true, Bool.not_false, List.length_cons, List.length_nil, List.map]
      have hm := hls x.2 (List.of_mem_zip (List.mem_of_getElem? hx)).2
      have e : ixN (intsL (List.foldl (fun s x => s.set x.2.toNat x.1) (List.replicate legs 0) (List.take k ((bitsAt legs i).zip ls)))).length x.2 = some x.2.toNat := by
        unfold ixN
        rw [if_pos hm.1, intsL_len, fset_len, List.length_replicate, if_pos hm.2]
      rw [e]
      refine ⟨rfl, .v (.int x.1), .v (.int x.2), ?_⟩
      have e2 : (intsL (List.foldl (fun s x => s.set x.2.toNat x.1) (List.replicate legs 0) (List.take k ((bitsAt legs i).zip ls)))).set x.2.toNat (D.int x.1) = intsL (List.foldl (fun s x => s.set x.2.toNat x.1) (List.replicate legs 0) (List.take (k + 1) ((bitsAt legs i).zip ls))) := by
        rw [← fold_step _ _ hx]
        unfold intsL
        rw [List.map_set]
      rw [e2]
    · rintro ss ⟨a, b, rfl⟩
      rw [List.length_map, List.take_length, hV2]
      dsimp only [DL.vAsg, DL.vFor, DL.vSeqI, DL.vNeg, DL.vPar, DL.vDct, DL.vEnum, DL.vRepL, DL.vRepr, DL.rRepr, DL.vIsiT, DL.vCallK, DL.vLenS, DL.vRaiX, DL.vRai0, DL.vFld, DL.rMulA, DL.rEqO, DL.rNeO, DL.vTryAs, DL.vCallW, DL.vCallH, DL.vBorL, DL.vStar, DL.vRev, DL.rRev, DL.vZip, DL.items2, DL.seqOf, DL.vAsgO, DL.vNilO, DL.vConsO, DL.vOwnO, DL.setO, DL.rSumA, DL.vBoxI, DL.vBoxS, DL.vCells, DL.vPopOr, DL.vScr, DL.vV, DL.vC, DL.vOp, DL.isB, DL.vTest, DL.vAnd, DL.vOr, DL.vNot, DL.vAndV, DL.vOrV, DL.vNotV, DL.vIf, DL.isNon, DL.vIsN, DL.vNotN, DL.vNil, DL.vCons, DL.vTup, DL.vLst, DL.rAdd, DL.rSub, DL.rMul, DL.rInt, DL.rDiv, DL.rMod, DL.rPow, DL.rShl, DL.rLt, DL.rLe, DL.rGt, DL.rGe, DL.vChain, DL.rIx, DL.vIx, DL.vNoPart, DL.isI, DL.vPart, DL.rSl, DL.vSl, DL.vCB, DL.rLen, DL.rAbs, DL.rMax2, DL.rMin2, DL.rIntOf, DL.rListOf, DL.rTupleOf, DL.vNext, DL.vSeq, DL.vBreak, DL.vCont, DL.vNever, DL.vFrz, DL.vBor, DL.vBorT, DL.vSet, DL.vDrop, DL.vRet, DL.vRetN, DL.vIfS, DL.vNew, DL.vOwn, DL.isL, DL.isIn, DL.isOwnL, DL.vApp, DL.vSto, DL.gV, DL.gT, DL.vRng1, DL.vRng2, DL.vYes, DL.vLc, DL.vCall, DL.vAttr, DL.vIsi, DL.vMk0, DL.vMkX, endsD, endsI, startI, isInsA, putD, capS, List.getElem?_cons_zero, List.getElem?_cons_succ, List.set_cons_zero, List.set_cons_succ, frz, frz1, wipeS, setN, noOwn, DL.isNon, Bool.not_true, Bool.not_false, List.length_cons, List.length_nil, List.map]
      exact ⟨rfl, p, .int legs, _, ns, ledB legs ls (bitsAt legs i), _, rfl, rfl, (tab_at t (ledB01 (b01 i)) ledB_len).1, hq'⟩
  · simp only [hw]
    exact hq

end K03

set_option maxRecDepth 100000
set_option maxHeartbeats 8000000
namespace K03
open PySem PySem.Spec PyProof.Rows L2 LamX NdefX DLX DL
variable {Pr : Program} {w : World} {K : PySem.W.Frag} {mg : Str → Option Value} {base : Heap} {P : Gl0}
variable {C tbs : Nat → Addr}
/-! ### turned, the other way round -/
def turnL (legs : Nat) (many : Int) : List Int := (List.range legs).map fun (l : Nat) => ((l : Int) + many) % (legs : Int)
def c_turned (C : Nat → Addr) : Ctr := fun ds Q Qx => ∃ (p : Int) (legs : Nat) (d : D) (ns : List Int) (n : String), ds = [ruleD C p (.int legs) (intsL ns), d] ∧ Tab p legs ns ∧ tyS d = some n ∧ (isBetw d 0 8 = false → Qx ⟨(C 1), [("part", .str "many")]⟩) ∧ (∀ i, d = .int i → 0 ≤ i → i ≤ 8 → Q (ruleD C p (.int legs) (intsL (tabLed legs (turnL legs i) ns))))
theorem sc_turned : FnScope ["rule", "many", "leg"] ["rule", "many"] (defScope s_turned) := ⟨rfl, rfl, rfl, by decide +kernel, rfl, by decide +kernel, by decide +kernel⟩
theorem ok_turned {f : Addr} {fd : FuncData} (F : L2.Fun K "turned" "turned" s_turned f fd) (M : MC Pr w K mg base C) (F_led : FD Pr w K mg base "led" 7 ["rule", "legs"] (spD (PP K C tbs) (fun _ => True) 2 (c_led C))) (F_need_between : FD Pr w K mg base "need_between" 3 ["number", "low", "high", "part"] (spD (PP K C tbs) (fun _ => True) 4 (c_need_between C))) (F_need_rule : FD Pr w K mg base "need_rule" 2 ["thing"] (spD (PP K C tbs) (fun _ => True) 1 (c_need_rule C))) : FnG Pr w K mg base (L2.CX Pr w) 8 f fd ["rule", "many"] (spD (PP K C tbs) (fun _ => True) 2 (c_turned C)) := by
  have nd := sc_turned.nd
  have T := txt (tbs := tbs) M
  obtain ⟨_, m_MOST_LEGS⟩ := M.m_MOST_LEGS
  refine fnD (k := 7) F sc_turned (fun g hgp cdv A outer s H E hr hgd => (ss_cons (s_expr (d_callF F_need_rule (hr.mono (by decide)) hgd rfl trivial (a_cons (d_var 0) a_nil))) (ss_cons (s_expr (d_callF F_need_between (hr.mono (by decide)) hgd rfl trivial (a_cons (d_var 1) (a_cons d_int (a_cons (d_gint rfl m_MOST_LEGS) (a_cons d_str a_nil)))))) (ss_one (s_ret (d_callF F_led (hr.mono (by decide)) hgd rfl trivial (a_cons (d_var 0) (a_cons (DN.de (n_lc (own := [("leg", 2)]) rfl nd (i_rng1 rfl M.b_range (d_attr T (d_var 0))) (blkOk_by (by rfl)) (fun _ _ _ _ _ => (g_name 2 nd (js := [2]))) (fun _ _ _ _ _ => ts_nil) (fun _ _ _ _ _ => (d_op o_mod (d_op o_add (d_var 2) (d_var 1)) (d_attr T (d_var 0)))))) a_nil)))))))) ?_
  intro ds Qd Qx hl hc
  obtain ⟨p, legs, d, ns, n, rfl, t, hn, h1, h2⟩ := hc
  rw [show startS ["rule", "many", "leg"] [ruleD C p (.int legs) (intsL ns), d] = [.v (ruleD C p (.int legs) (intsL ns)), .v d, .u] from rfl]
  dsimp only [DL.vAsg, DL.vFor, DL.vSeqI, DL.vNeg, DL.vPar, DL.vDct, DL.vEnum, DL.vRepL, DL.vRepr, DL.rRepr, DL.vIsiT, DL.vCallK, DL.vLenS, DL.vRaiX, DL.vRai0, DL.vFld, DL.rMulA, DL.rEqO, DL.rNeO, DL.vTryAs, DL.vCallW, DL.vCallH, DL.vBorL, DL.vStar, DL.vRev, DL.rRev, DL.vZip, DL.items2, DL.seqOf, DL.vAsgO, DL.vNilO, DL.vConsO, DL.vOwnO, DL.setO, DL.rSumA, DL.vBoxI, DL.vBoxS, DL.vCells, DL.vPopOr, DL.vScr, DL.vV, DL.vC, DL.vOp, DL.isB, DL.vTest, DL.vAnd, DL.vOr, DL.vNot, DL.vAndV, DL.vOrV, DL.vNotV, DL.vIf, DL.isNon, DL.vIsN, DL.vNotN, DL.vNil, DL.vCons, DL.vTup, DL.vLst, DL.rAdd, DL.rSub, DL.rMul, DL.rInt, DL.rDiv, DL.rMod, DL.rPow, DL.rShl, DL.rLt, DL.rLe, DL.rGt, DL.rGe, DL.vChain, DL.rIx, DL.vIx, DL.vNoPart, DL.isI, DL.vPart, DL.rSl, DL.vSl, DL.vCB, DL.rLen, DL.rAbs, DL.rMax2, DL.rMin2, DL.rIntOf, DL.rListOf, DL.rTupleOf, DL.vNext, DL.vSeq, DL.vBreak, DL.vCont, DL.vNever, DL.vFrz, DL.vBor, DL.vBorT, DL.vSet, DL.vDrop, DL.vRet, DL.vRetN, DL.vIfS, DL.vNew, DL.vOwn, DL.isL, DL.isIn, DL.isOwnL, DL.vApp, DL.vSto, DL.gV, DL.gT, DL.vRng1, DL.vRng2, DL.vYes, DL.vLc, DL.vCall, DL.vAttr, DL.vIsi, DL.vMk0, DL.vMkX, endsD, endsI, startI, isInsA, putD, capS, List.getElem?_cons_zero, List.getElem?_cons_succ, List.set_cons_zero, List.set_cons_succ, frz, frz1, wipeS, setN, noOwn, DL.isNon, Bool.not_true, Bool.not_false, List.length_cons, List.length_nil, List.map, c_need_rule, c_need_between, c_led]
  have l8 := t.l8
  refine ⟨rfl, _, true, rfl, if_pos rfl, fun _ => ?_, fun z => by cases z⟩
  refine ⟨rfl, d, n, 0, 8, _, rfl, hn, fun hb => ?_, h1⟩
  obtain ⟨i, rfl, i0, i1⟩ := betw_int hb
  dsimp only [ruleD]
  refine ⟨⟨trivial, trivial⟩, rfl, M.a_Rule_legs, some2 (by decide) (some1 ⟨⟨by omega, by omega⟩, by rw [ints_len]; omega, fun k acc => acc = intsL ((List.range k).map fun (l : Nat) => ((l : Int) + i) % (legs : Int)), rfl, ?_, ?_⟩)⟩
  · rintro k d acc hd rfl
    obtain ⟨hk, rfl⟩ := ints_get hd
    rw [Int.zero_add]
    refine ⟨rfl, M.a_Rule_legs, some2 (by decide) (some1 ⟨by omega, ?_⟩)⟩
    show _ = intsL ((List.range (k + 1)).map fun (l : Nat) => ((l : Int) + i) % (legs : Int))
    unfold intsL
    rw [← rm_step, List.map_append]
    rfl
  · rintro acc rfl
    rw [ints_len, Int.toNat_natCast]
    refine ⟨rfl, p, legs, ns, turnL legs i, rfl, t, by unfold turnL; rw [List.length_map, List.length_range], fun x hx => ?_, h2 i rfl i0 i1⟩
    obtain ⟨l, hl2, rfl⟩ := List.mem_map.mp hx
    have := List.mem_range.mp hl2
    exact ⟨Int.emod_nonneg _ (by omega), Int.emod_lt_of_pos _ (by omega)⟩
def mirL (legs : Nat) : List Int := ((List.range legs).map fun (l : Nat) => (l : Int)).reverse
end K03

set_option maxRecDepth 100000
set_option maxHeartbeats 8000000
namespace K03
open PySem PySem.Spec PyProof.Rows L2 LamX NdefX DLX DL
variable {Pr : Program} {w : World} {K : PySem.W.Frag} {mg : Str → Option Value} {base : Heap} {P : Gl0}
variable {C tbs : Nat → Addr}
/-! ### flipped, with a leg set -/
theorem cut_to {bs : List Int} {l : Nat} : DL.cutD (intsL bs) none (some (l : Int)) = intsL (bs.take l) := by
  unfold DL.cutD
  rw [HT.sIx_none, HT.sIx_nat, List.drop_zero, Nat.sub_zero]
  unfold intsL
  rw [List.length_map, ← List.map_take]
  congr 1
  by_cases h : l ≤ bs.length
  · rw [Nat.min_eq_left h]
  · rw [Nat.min_eq_right (by omega), List.take_length, List.take_of_length_le (by omega)]
theorem cut_from {bs : List Int} {l : Nat} : DL.cutD (intsL bs) (some (l : Int)) none = intsL (bs.drop l) := by
  unfold DL.cutD
  rw [HT.sIx_none, HT.sIx_nat]
  unfold intsL
  rw [List.length_map, ← List.map_drop, ← List.map_take]
  congr 1
  by_cases h : l ≤ bs.length
  · rw [Nat.min_eq_left h, List.take_of_length_le (by rw [List.length_drop]; exact Nat.le_refl _)]
  · rw [Nat.min_eq_right (by omega), List.drop_length, List.take_nil, List.drop_of_length_le (by omega)]
def flipB (l : Nat) (bs : List Int) : List Int := bs.take l ++ (1 - bs.getD l 0) :: bs.drop (l + 1)
def setB (l : Nat) (b : Int) (bs : List Int) : List Int := bs.take l ++ b :: bs.drop l
def tabFlip (legs l : Nat) (ns : List Int) : List Int := (List.range (2 ^ legs)).map fun (i : Nat) => ns.getD (indexOf (flipB l (bitsAt legs i))).toNat 0
def tabSet (legs l : Nat) (b : Int) (ns : List Int) : List Int := (List.range (2 ^ (legs - 1))).map fun (i : Nat) => ns.getD (indexOf (setB l b (bitsAt (legs - 1) i))).toNat 0
theorem flipB_ok {legs l i : Nat} (h : l < legs) : (flipB l (bitsAt legs i)).length = legs ∧ ∀ x ∈ flipB l (bitsAt legs i), 0 ≤ x ∧ x ≤ 1 := by
  have bl := bitsAt_len (legs := legs) (index := i)
  unfold flipB
  refine ⟨?_, fun x hx => ?_⟩
  · rw [List.length_append, List.length_cons, List.length_take, List.length_drop, bl]
    omega
  · rcases List.mem_append.mp hx with q | q
    · exact bits01 (List.mem_of_mem_take q)
    · rcases List.mem_cons.mp q with q | q
      · have := bits01 (getD_mem (ns := bitsAt legs i) (i := (l : Int)) (by omega) (by omega))
        rw [Int.toNat_natCast] at this
        rw [q]
        omega
      · exact bits01 (List.mem_of_mem_drop q)
theorem setB_ok {legs l i : Nat} {b : Int} (h : l < legs) (hb : 0 ≤ b ∧ b ≤ 1) : (setB l b (bitsAt (legs - 1) i)).length = legs ∧ ∀ x ∈ setB l b (bitsAt (legs - 1) i), 0 ≤ x ∧ x ≤ 1 := by
  have bl := bitsAt_len (legs := legs - 1) (index := i)
  unfold setB
  refine ⟨?_, fun x hx => ?_⟩
  · rw [List.length_append, List.length_cons, List.length_take, List.length_drop, bl]
    omega
  · rcases List.mem_append.mp hx with q | q
    · exact bits01 (List.mem_of_mem_take q)
    · rcases List.mem_cons.mp q with q | q
      · rw [q]
        exact hb
      · exact bits01 (List.mem_of_mem_drop q)
end K03

set_option maxRecDepth 100000
set_option maxHeartbeats 8000000
namespace K03
open PySem PySem.Spec PyProof.Rows L2 LamX NdefX DLX DL
variable {Pr : Program} {w : World} {K : PySem.W.Frag} {mg : Str → Option Value} {base : Heap} {P : Gl0}
variable {C tbs : Nat → Addr}
/-! ### the law's own number of bits -/
def c__law_number (C : Nat → Addr) : Ctr := fun ds Q _ => ∃ (ns : List Int) (d : D), ds = [d] ∧ items d = some (intsL ns) ∧ Q (.int (indexOf ns))
theorem sc__law_number : FnScope ["bits", "found", "bit"] ["bits"] (defScope s_law_number) := ⟨rfl, rfl, rfl, by decide +kernel, rfl, by decide +kernel, by decide +kernel⟩
theorem ok__law_number {f : Addr} {fd : FuncData} (F : L2.Fun K "_law_number" "_law_number" s_law_number f fd) (M : MC Pr w K mg base C)  : FnG Pr w K mg base (L2.CX Pr w) 1 f fd ["bits"] (spD (PP K C tbs) (fun _ => True) 1 (c__law_number C)) := by
  have nd := sc__law_number.nd
  have T := txt (tbs := tbs) M
  refine fnD (k := 0) F sc__law_number (fun g hgp cdv A outer s H E hr hgd => (ss_cons (s_set 1 nd d_int) (ss_cons (s_for (passes_of rfl) rfl (i_seq (d_var 0)) (g_name 2 nd) (ss_one (s_set 1 nd (d_op o_add (d_op o_mulA d_int (d_var 1)) (d_var 2))))) (ss_one (s_ret (d_var 1)))))) ?_
  intro ds Qd Qx hl hc
  obtain ⟨ns, d, rfl, hd, hq⟩ := hc
  rw [show startS ["bits", "found", "bit"] [d] = [.v d, .u, .u] from rfl]
  cases d with
  | lst l =>
    cases hd
    dsimp only [DL.vAsg, DL.vFor, DL.vSeqI, DL.vNeg, DL.vPar, DL.vDct, DL.rMem, DL.vEnum, DL.vRepL, DL.vRepr, DL.rRepr, DL.vIsiT, DL.vCallK, DL.vLenS, DL.vRaiX, DL.vRai0, DL.vFld, DL.rMulA, DL.rEqO, DL.rNeO, DL.vTryAs, DL.vCallW, DL.vCallH, DL.vBorL, DL.vStar, DL.vRev, DL.rRev, DL.vZip, DL.items2, DL.seqOf, DL.vAsgO, DL.vNilO, DL.vConsO, DL.vOwnO, DL.setO, DL.rSumA, DL.vBoxI, DL.vBoxS, DL.vCells, DL.vPopOr, DL.vScr, DL.vV, DL.vC, DL.vOp, DL.isB, DL.vTest, DL.vAnd, DL.vOr, DL.vNot, DL.vAndV, DL.vOrV, DL.vNotV, DL.vIf, DL.isNon, DL.vIsN, DL.vNotN, DL.vNil, DL.vCons, DL.vTup, DL.vLst, DL.rAdd, DL.rSub, DL.rMul, DL.rInt, DL.rDiv, DL.rMod, DL.rPow, DL.rShl, DL.rLt, DL.rLe, DL.rGt, DL.rGe, DL.vChain, DL.rEqS, DL.rNeS, DL.rIx, DL.vIx, DL.vNoPart, DL.isI, DL.vPart, DL.rSl, DL.vSl, DL.vCB, DL.rLen, DL.rAbs, DL.rMax2, DL.rMin2, DL.rIntOf, DL.rListOf, DL.rTupleOf, DL.vNext, DL.vSeq, DL.vBreak, DL.vCont, DL.vNever, DL.vFrz, DL.vBor, DL.vBorT, DL.vSet, DL.vDrop, DL.vRet, DL.vRetN, DL.vIfS, DL.vNew, DL.vOwn, DL.isL, DL.isIn, DL.isOwnL, DL.vApp, DL.vSto, DL.gV, DL.gT, DL.vRng1, DL.vRng2, DL.vYes, DL.vLc, DL.vCall, DL.vAttr, DL.vIsi, DL.vMk0, DL.vMkX, endsD, endsI, startI, isInsA, putD, capS, List.getElem?_cons_zero, List.getElem?_cons_succ, List.set_cons_zero, List.set_cons_succ, frz, frz1, wipeS, setN, noOwn, DL.isNon, Bool.not_true, Bool.not_false, List.length_cons, List.length_nil, List.map]
    refine ⟨fun i ss => ∃ a, ss = [.v (.lst (intsL ns)), .v (.int (indexOf (ns.take i))), a], ⟨_, rfl⟩, ?_, ?_⟩
    · rintro i d ss hd ⟨a, rfl⟩
      obtain ⟨b, hb, rfl⟩ := (show ∃ b, ns[i]? = some b ∧ D.int b = d by
        unfold intsL at hd
        rw [List.getElem?_map] at hd
        exact Option.map_eq_some_iff.mp hd)
      dsimp only [DL.vAsg, DL.vFor, DL.vSeqI, DL.vNeg, DL.vPar, DL.vDct, DL.rMem, DL.vEnum, DL.vRepL, DL.vRepr, DL.rRepr, DL.vIsiT, DL.vCallK, DL.vLenS, DL.vRaiX, DL.vRai0, DL.vFld, DL.rMulA, DL.rEqO, DL.rNeO, DL.vTryAs, DL.vCallW, DL.vCallH, DL.vBorL, DL.vStar, DL.vRev, DL.rRev, DL.vZip, DL.items2, DL.seqOf, DL.vAsgO, DL.vNilO, DL.vConsO, DL.vOwnO, DL.setO, DL.rSumA, DL.vBoxI, DL.vBoxS, DL.vCells, DL.vPopOr, DL.vScr, DL.vV, DL.vC, DL.vOp, DL.isB, DL.vTest, DL.vAnd, DL.vOr, DL.vNot, DL.vAndV, DL.vOrV, DL.vNotV, DL.vIf, DL.isNon, DL.vIsN, DL.vNotN, DL.vNil, DL.vCons, DL.vTup, DL.vLst, DL.rAdd, DL.rSub, DL.rMul, DL.rInt, DL.rDiv, DL.rMod, DL.rPow, DL.rShl, DL.rLt, DL.rLe, DL.rGt, DL.rGe, DL.vChain, DL.rEqS, DL.rNeS, DL.rIx, DL.vIx, DL.vNoPart, DL.isI, DL.vPart, DL.rSl, DL.vSl, DL.vCB, DL.rLen, DL.rAbs, DL.rMax2, DL.rMin2, DL.rIntOf, DL.rListOf, DL.rTupleOf, DL.vNext, DL.vSeq, DL.vBreak, DL.vCont, DL.vNever, DL.vFrz, DL.vBor, DL.vBorT, DL.vSet, DL.vDrop, DL.vRet, DL.vRetN, DL.vIfS, DL.vNew, DL.vOwn, DL.isL, DL.isIn, DL.isOwnL, DL.vApp, DL.vSto, DL.gV, DL.gT, DL.vRng1, DL.vRng2, DL.vYes, DL.vLc, DL.vCall, DL.vAttr, DL.vIsi, DL.vMk0, DL.vMkX, endsD, endsI, startI, isInsA, putD, capS, List.getElem?_cons_zero, List.getElem?_cons_succ, List.set_cons_zero, List.set_cons_succ, frz, frz1, wipeS, setN, noOwn, DL.isNon, Bool.not_true, Bool.not_false, List.length_cons, List.length_nil, List.map]
      refine ⟨.inl ⟨by decide, by decide⟩, .v (.int b), ?_⟩
      unfold indexOf
      rw [← fold_step _ _ hb]
    · rintro ss ⟨a, rfl⟩
      unfold intsL
      rw [List.length_map, List.take_length]
      exact hq
  | tup l =>
    cases hd
    dsimp only [DL.vAsg, DL.vFor, DL.vSeqI, DL.vNeg, DL.vPar, DL.vDct, DL.rMem, DL.vEnum, DL.vRepL, DL.vRepr, DL.rRepr, DL.vIsiT, DL.vCallK, DL.vLenS, DL.vRaiX, DL.vRai0, DL.vFld, DL.rMulA, DL.rEqO, DL.rNeO, DL.vTryAs, DL.vCallW, DL.vCallH, DL.vBorL, DL.vStar, DL.vRev, DL.rRev, DL.vZip, DL.items2, DL.seqOf, DL.vAsgO, DL.vNilO, DL.vConsO, DL.vOwnO, DL.setO, DL.rSumA, DL.vBoxI, DL.vBoxS, DL.vCells, DL.vPopOr, DL.vScr, DL.vV, DL.vC, DL.vOp, DL.isB, DL.vTest, DL.vAnd, DL.vOr, DL.vNot, DL.vAndV, DL.vOrV, DL.vNotV, DL.vIf, DL.isNon, DL.vIsN, DL.vNotN, DL.vNil, DL.vCons, DL.vTup, DL.vLst, DL.rAdd, DL.rSub, DL.rMul, DL.rInt, DL.rDiv, DL.rMod, DL.rPow, DL.rShl, DL.rLt, DL.rLe, DL.rGt, DL.rGe, DL.vChain, DL.rEqS, DL.rNeS, DL.rIx, DL.vIx, DL.vNoPart, DL.isI, DL.vPart, DL.rSl, DL.vSl, DL.vCB, DL.rLen, DL.rAbs, DL.rMax2, DL.rMin2, DL.rIntOf, DL.rListOf, DL.rTupleOf, DL.vNext, DL.vSeq, DL.vBreak, DL.vCont, DL.vNever, DL.vFrz, DL.vBor, DL.vBorT, DL.vSet, DL.vDrop, DL.vRet, DL.vRetN, DL.vIfS, DL.vNew, DL.vOwn, DL.isL, DL.isIn, DL.isOwnL, DL.vApp, DL.vSto, DL.gV, DL.gT, DL.vRng1, DL.vRng2, DL.vYes, DL.vLc, DL.vCall, DL.vAttr, DL.vIsi, DL.vMk0, DL.vMkX, endsD, endsI, startI, isInsA, putD, capS, List.getElem?_cons_zero, List.getElem?_cons_succ, List.set_cons_zero, List.set_cons_succ, frz, frz1, wipeS, setN, noOwn, DL.isNon, Bool.not_true, Bool.not_false, List.length_cons, List.length_nil, List.map]
    refine ⟨fun i ss => ∃ a, ss = [.v (.tup (intsL ns)), .v (.int (indexOf (ns.take i))), a], ⟨_, rfl⟩, ?_, ?_⟩
    · rintro i d ss hd ⟨a, rfl⟩
      obtain ⟨b, hb, rfl⟩ := (show ∃ b, ns[i]? = some b ∧ D.int b = d by
        unfold intsL at hd
        rw [List.getElem?_map] at hd
        exact Option.map_eq_some_iff.mp hd)
      dsimp only [DL.vAsg, DL.vFor, DL.vSeqI, DL.vNeg, DL.vPar, DL.vDct, DL.rMem, DL.vEnum, DL.vRepL, DL.vRepr, DL.rRepr, DL.vIsiT, DL.vCallK, DL.vLenS, DL.vRaiX, DL.vRai0, DL.vFld, DL.rMulA, DL.rEqO, DL.rNeO, DL.vTryAs, DL.vCallW, DL.vCallH, DL.vBorL, DL.vStar, DL.vRev, DL.rRev, DL.vZip, DL.items2, DL.seqOf, DL.vAsgO, DL.vNilO, DL.vConsO, DL.vOwnO, DL.setO, DL.rSumA, DL.vBoxI, DL.vBoxS, DL.vCells, DL.vPopOr, DL.vScr, DL.vV, DL.vC, DL.vOp, DL.isB, DL.vTest, DL.vAnd, DL.vOr, DL.vNot, DL.vAndV, DL.vOrV, DL.vNotV, DL.vIf, DL.isNon, DL.vIsN, DL.vNotN, DL.vNil, DL.vCons, DL.vTup, DL.vLst, DL.rAdd, DL.rSub, DL.rMul, DL.rInt, DL.rDiv, DL.rMod, DL.rPow, DL.rShl, DL.rLt, DL.rLe, DL.rGt, DL.rGe, DL.vChain, DL.rEqS, DL.rNeS, DL.rIx, DL.vIx, DL.vNoPart, DL.isI, DL.vPart, DL.rSl, DL.vSl, DL.vCB, DL.rLen, DL.rAbs, DL.rMax2, DL.rMin2, DL.rIntOf, DL.rListOf, DL.rTupleOf, DL.vNext, DL.vSeq, DL.vBreak, DL.vCont, DL.vNever, DL.vFrz, DL.vBor, DL.vBorT, DL.vSet, DL.vDrop, DL.vRet, DL.vRetN, DL.vIfS, DL.vNew, DL.vOwn, DL.isL, DL.isIn, DL.isOwnL, DL.vApp, DL.vSto, DL.gV, DL.gT, DL.vRng1, DL.vRng2, DL.vYes, DL.vLc, DL.vCall, DL.vAttr, DL.vIsi, DL.vMk0, DL.vMkX, endsD, endsI, startI, isInsA, putD, capS, List.getElem?_cons_zero, List.getElem?_cons_succ, List.set_cons_zero, List.set_cons_succ, frz, frz1, wipeS, setN, noOwn, DL.isNon, Bool.not_true, Bool.not_false, List.length_cons, List.length_nil, List.map]
      refine ⟨.inl ⟨by decide, by decide⟩, .v (.int b), ?_⟩
      unfold indexOf
      rw [← fold_step _ _ hb]
    · rintro ss ⟨a, rfl⟩
      unfold intsL
      rw [List.length_map, List.take_length]
      exact hq
  | _ => cases hd

end K03

set_option maxRecDepth 100000
set_option maxHeartbeats 8000000
namespace K03
open PySem PySem.Spec PyProof.Rows L2 LamX NdefX DLX DL
variable {Pr : Program} {w : World} {K : PySem.W.Frag} {mg : Str → Option Value} {base : Heap} {P : Gl0}
variable {C tbs : Nat → Addr}
/-! ### the law -/
noncomputable def eqs (C : Nat → Addr) : Addr → Option Ctr := fun c0 => if c0 = (C 4) then some (c_Rule_eq C) else none
theorem cloD_opened {gp : B → Prop} {k : Nat} {sc : Scope} {N : List Str} {tb : Nat → Option CloT} (h : CloD Pr w K mg base P gp k sc N tb) : ∃ tb', CloD Pr w K mg base P gp k sc N tb' ∧ tb' = tb := ⟨tb, h, rfl⟩
section
variable {p : Int} {legs : Nat} {ns : List Int} {Q : D → Prop} {Qx : Err → Prop}
theorem excP_in {i : Nat} (h : i < 4) : excP C (C i) := by
  have : i = 0 ∨ i = 1 ∨ i = 2 ∨ i = 3 := by omega
  unfold excP
  rcases this with rfl | rfl | rfl | rfl <;> simp
theorem isx (M : MC Pr w K mg base C) {c : Addr} {fs : List (Str × D)} {Q : Bool → Prop} (h : excP C c) (q : Q true) : okI (PP K C tbs) (.exc c fs) ∧ ∃ t b, tyD (PP K C tbs) (.exc c fs) = some t ∧ (PP K C tbs).isa t (.ref c) = some b ∧ Q b := by
  refine ⟨h, _, true, rfl, ?_, q⟩
  show PySem.W.kitOne K (.ref c) (.ref c) = some true
  unfold PySem.W.kitOne
  rw [if_pos (by simp)]
theorem eq_lst_O {ms : List Int} (h : Q (.bl (decide (ns = ms)))) : rEqO (PP K C tbs) (eqs C) (.lst (intsL ns)) (.lst (intsL ms)) Q := by
  show rEqS (.lst (ns.map D.int)) (.lst (ms.map D.int)) Q
  exact eq_lst_ints h
theorem atI_ints {i x : Int} (h : L2.atI ns i = some x) : L2.atI (intsL ns) i = some (.int x) := atI_map h
theorem ne_bl_same {b : Bool} (q : Q (.bl false)) : rNeO (PP K C tbs) (eqs C) (.bl b) (.bl b) Q := by
  show Q (.bl (!(b == b)))
  rw [beq_self_eq_true]
  exact q
theorem ne_str_same {b : Str} (q : Q (.bl false)) : rNeO (PP K C tbs) (eqs C) (.str b) (.str b) Q := by
  show Q (.bl (!decide (b = b)))
  rw [decide_eq_true rfl]
  exact q
theorem ne_int_same {b : Int} (q : Q (.bl false)) : rNeO (PP K C tbs) (eqs C) (.int b) (.int b) Q := by
  show Q (.bl (!decide (b = b)))
  rw [decide_eq_true rfl]
  exact q
theorem eq_int {a b : Int} (q : Q (.bl (decide (a = b)))) : rEqO (PP K C tbs) (eqs C) (.int a) (.int b) Q := q
theorem mb2 {b : Bool} {A F : Prop} (f : F) : (b = true → F → A) → match b with
  | true => A
  | false => F := fun h => by
  cases b with
  | true => exact h rfl f
  | false => exact f
theorem eqs_rule : eqs C (C 4) = some (c_Rule_eq C) := if_pos rfl
theorem ne_rule {q : Int} {legs' : D} {d : D} {ms : List Int} (h : Q (.bl (!(decide (p = q) && decide (ns = ms))))) : rNeO (PP K C tbs) (eqs C) (ruleD C p d (intsL ns)) (ruleD C q legs' (intsL ms)) Q := by
  dsimp only [rNeO, ruleD]
  rw [eqs_rule]
  exact ⟨⟨rfl, rfl⟩, p, d, ns, _, rfl, .inr ⟨q, legs', ms, rfl, h⟩⟩
theorem eq_rule {q : Int} {legs' : D} {d : D} {ms : List Int} (h : Q (.bl (decide (p = q) && decide (ns = ms)))) : rEqO (PP K C tbs) (eqs C) (ruleD C p d (intsL ns)) (ruleD C q legs' (intsL ms)) Q := by
  dsimp only [rEqO, ruleD]
  rw [eqs_rule]
  exact ⟨⟨rfl, rfl⟩, p, d, ns, _, rfl, .inr ⟨q, legs', ms, rfl, h⟩⟩
theorem eq_rule_tup {d : D} {l : List D} (h : Q (.bl false)) : rEqO (PP K C tbs) (eqs C) (ruleD C p d (intsL ns)) (.tup l) Q := by
  dsimp only [rEqO, ruleD]
  rw [eqs_rule]
  exact ⟨⟨trivial, trivial⟩, p, d, ns, _, rfl, .inl ⟨⟨_, rfl⟩, h⟩⟩
end
/-! ### the places that the deeds lead to, up to five legs -/
def sig (legs : Nat) (ls : List Int) (i : Nat) : Int := indexOf (ledB legs ls (bitsAt legs i))
def backL (legs : Nat) (many : Int) : List Int := (List.range legs).map fun (l : Nat) => ((l : Int) - many) % (if (legs : Int) > 1 then (legs : Int) else 1)
def backB (legs : Nat) (many : Int) (bs : List Int) : List Int := (List.range legs).map fun (l : Nat) => bs.getD ((backL legs many).getD l 0).toNat 0
theorem is_ok {p : Int} {legs : Nat} {ns : List Int} {Q : D → Prop} {Qx : Err → Prop} (t : Tab p legs ns) (q : Q (.bl true)) : c__law_is_rule C [ruleD C p (.int legs) (intsL ns), .int p, .lst (intsL ns)] Q Qx := by
  have pp := prime_in t.prime
  exact ⟨p, legs, ns, rfl, t.l8, t.len, by omega, by omega, fun x hx => ⟨(t.inn x hx).1, by have := (t.inn x hx).2; omega⟩, q⟩
theorem turned_ok {p : Int} {i legs : Nat} {ns : List Int} {Q : D → Prop} {Qx : Err → Prop} (t : Tab p legs ns) (h : i ≤ 8) (q : Q (ruleD C p (.int legs) (intsL (tabLed legs (turnL legs i) ns)))) : c_turned C [ruleD C p (.int legs) (intsL ns), .int i] Q Qx :=
  ⟨p, legs, .int i, ns, _, rfl, t, rfl, (fun z => by
    have z : (decide ((0 : Int) ≤ i) && decide ((i : Int) ≤ 8)) = false := z
    rw [decide_eq_true (by omega), decide_eq_true (by omega)] at z
    cases z), (fun j ej _ _ => by
    cases ej
    exact q)⟩
theorem turned_bad {p : Int} {legs : Nat} {d : D} {m : String} {ns : List Int} {Q : D → Prop} {Qx : Err → Prop} (t : Tab p legs ns) (hm : tyS d = some m) (hb : isBetw d 0 8 = false) (q : Qx ⟨(C 1), [("part", .str "many")]⟩) : c_turned C [ruleD C p (.int legs) (intsL ns), d] Q Qx :=
  ⟨p, legs, d, ns, _, rfl, t, hm, fun _ => q, fun i e h0 h1 => by
    subst e
    have z : (decide (0 ≤ i) && decide (i ≤ 8)) = false := hb
    rw [decide_eq_true h0, decide_eq_true h1] at z
    cases z⟩
theorem intsL_map {n : Nat} {g : Nat → Int} : (List.range n).map (fun i => D.int (g i)) = intsL ((List.range n).map g) := by
  unfold intsL
  rw [List.map_map]
  rfl
theorem tab_any {p : Int} {legs n k : Nat} {ns : List Int} {bs : Nat → List Int} (t : Tab p legs ns) (hk : n = 2 ^ k) (h8 : k ≤ 8) (h : ∀ i, i < n → (∀ x ∈ bs i, 0 ≤ x ∧ x ≤ 1) ∧ (bs i).length = legs) : Tab p k ((List.range n).map fun i => ns.getD (indexOf (bs i)).toNat 0) :=
  ⟨t.prime, h8, by rw [List.length_map, List.length_range, hk], fun x hx => by
    obtain ⟨i, hi, rfl⟩ := List.mem_map.mp hx
    have hh := h i (List.mem_range.mp hi)
    exact (tab_at t hh.1 hh.2).2⟩
theorem turnL_in {legs i : Nat} : ∀ x ∈ turnL legs i, 0 ≤ x ∧ x < legs := fun x hx => by
  obtain ⟨l, hl2, rfl⟩ := List.mem_map.mp hx
  have := List.mem_range.mp hl2
  exact ⟨Int.emod_nonneg _ (by omega), Int.emod_lt_of_pos _ (by omega)⟩
theorem tab_led {p : Int} {legs : Nat} {ls ns : List Int} (t : Tab p legs ns) : Tab p legs (tabLed legs ls ns) :=
  tab_any t rfl t.l8 fun i hi => ⟨ledB01 fun x hx => bits01 hx, ledB_len⟩
theorem led_twice {legs : Nat} {ls ms ns : List Int} (hL : ns.length = 2 ^ legs) (h : ∀ i : Nat, i < 2 ^ legs → sig legs ls (sig legs ms i).toNat = i) (hs : ∀ i : Nat, i < 2 ^ legs → 0 ≤ sig legs ms i ∧ sig legs ms i < ((2 ^ legs : Nat) : Int)) : tabLed legs ms (tabLed legs ls ns) = ns := by
  have e1 : ns = (List.range (2 ^ legs)).map fun (i : Nat) => ns.getD i 0 := by
    refine List.ext_getElem (by rw [List.length_map, List.length_range, hL]) fun i h1 h2 => ?_
    rw [List.getElem_map, List.getElem_range, List.getD_eq_getElem?_getD, List.getElem?_eq_getElem h1]
    rfl
  have e2 : ∀ j : Nat, j < 2 ^ legs → (tabLed legs ls ns).getD j 0 = ns.getD (sig legs ls j).toNat 0 := fun j hj => by
    unfold tabLed
    rw [List.getD_eq_getElem?_getD, List.getElem?_map, List.getElem?_range hj]
    rfl
  show (List.range (2 ^ legs)).map (fun (i : Nat) => (tabLed legs ls ns).getD (sig legs ms i).toNat 0) = ns
  conv => rhs; rw [e1]
  refine List.map_congr_left fun i hi => ?_
  have := hs i (List.mem_range.mp hi)
  rw [e2 _ (by omega), h i (List.mem_range.mp hi), Int.toNat_natCast]
theorem sig_in {legs i : Nat} {ls : List Int} : 0 ≤ sig legs ls i ∧ sig legs ls i < ((2 ^ legs : Nat) : Int) := idx_in (ledB01 fun x hx => bits01 hx) ledB_len
theorem fm_if {α β : Type} {P : α → Prop} [DecidablePred P] {f : α → β} : ∀ l : List α, l.filterMap (fun x => if P x then some (f x) else none) = (l.filter fun x => decide (P x)).map f
  | [] => rfl
  | x :: l => by
    rw [List.filterMap_cons, List.filter_cons]
    by_cases h : P x
    · rw [if_pos h, decide_eq_true h, if_pos rfl, List.map_cons, fm_if l]
    · rw [if_neg h, decide_eq_false h, if_neg (by simp), fm_if l]

end K03

set_option maxRecDepth 100000
set_option maxHeartbeats 8000000
namespace K03
open PySem PySem.Spec PyProof.Rows L2 LamX NdefX DLX DL
variable {Pr : Program} {w : World} {K : PySem.W.Frag} {mg : Str → Option Value} {base : Heap} {P : Gl0}
variable {C tbs : Nat → Addr}
/-! ### bits, cut -/
theorem bit_nat (k e : Nat) : (k : Int) / (1 * 2 ^ e) % 2 = ((k / 2 ^ e % 2 : Nat) : Int) := by
  rw [Int.one_mul]
  push_cast
  rfl
theorem bitsAt_at {legs i : Nat} {k : Int} (h : i < (bitsAt legs k).length) : (bitsAt legs k)[i] = k / (1 * 2 ^ (legs - 1 - i)) % 2 := by
  simp only [bitsAt, List.getElem_map, List.getElem_range]
theorem bitsAt_take {m n k : Nat} : (bitsAt (m + n) (k : Int)).take m = bitsAt m ((k / 2 ^ n : Nat) : Int) := by
  unfold bitsAt
  rw [← List.map_take, List.take_range, Nat.min_eq_left (by omega)]
  refine List.map_congr_left fun i hi => ?_
  have hi := List.mem_range.mp hi
  rw [bit_nat, bit_nat, Nat.div_div_eq_div_mul, ← Nat.pow_add, show n + (m - 1 - i) = m + n - 1 - i by omega]
theorem bitsAt_drop {m n k : Nat} : (bitsAt (m + n) (k : Int)).drop m = bitsAt n (k : Int) := by
  refine List.ext_getElem (by rw [List.length_drop, bitsAt_len, bitsAt_len]; omega) fun i h1 h2 => ?_
  rw [List.getElem_drop, bitsAt_at, bitsAt_at, show m + n - 1 - (m + i) = n - 1 - i by omega]
theorem index_from (bs : List Int) : ∀ f : Int, bs.foldl (fun f b => 2 * f + b) f = f * ((2 ^ bs.length : Nat) : Int) + indexOf bs := by
  induction bs with
  | nil => intro f; show f = f * 1 + 0; omega
  | cons b bs ih =>
    intro f
    have e : indexOf (b :: bs) = bs.foldl (fun f b => 2 * f + b) b := by
      show bs.foldl (fun f b => 2 * f + b) (2 * 0 + b) = _
      rw [show (2 * 0 + b : Int) = b by omega]
    rw [e, List.foldl_cons, ih, ih b, List.length_cons, Nat.pow_succ]
    push_cast
    rw [Int.add_mul, Int.mul_comm 2 f, Int.mul_assoc, Int.mul_comm 2, Int.add_assoc]
theorem index_app (xs ys : List Int) : indexOf (xs ++ ys) = indexOf xs * ((2 ^ ys.length : Nat) : Int) + indexOf ys := by
  show (xs ++ ys).foldl (fun f b => 2 * f + b) 0 = _
  rw [List.foldl_append]
  exact index_from ys _
theorem index_cons (b : Int) (ys : List Int) : indexOf (b :: ys) = b * ((2 ^ ys.length : Nat) : Int) + indexOf ys := by
  have := index_app [b] ys
  rw [show indexOf [b] = b from by show 2 * 0 + b = b; omega] at this
  exact this
theorem bitsAt_succ (n k : Nat) : bitsAt (n + 1) (k : Int) = ((k / 2 ^ n % 2 : Nat) : Int) :: bitsAt n (k : Int) := by
  have h1 := bitsAt_drop (m := 1) (n := n) (k := k)
  have h2 := bitsAt_take (m := 1) (n := n) (k := k)
  rw [← h1, show n + 1 = 1 + n by omega]
  have h3 : bitsAt 1 ((k / 2 ^ n : Nat) : Int) = [((k / 2 ^ n % 2 : Nat) : Int)] := by
    unfold bitsAt
    show [((k / 2 ^ n : Nat) : Int) / (1 * 2 ^ 0) % 2] = _
    rw [bit_nat, Nat.pow_zero, Nat.div_one]
  rw [h3] at h2
  have := List.take_append_drop 1 (bitsAt (1 + n) (k : Int))
  rw [h2] at this
  exact this.symm
theorem index_bits (n k : Nat) : indexOf (bitsAt n (k : Int)) = ((k % 2 ^ n : Nat) : Int) := by
  induction n with
  | zero => rw [Nat.pow_zero, Nat.mod_one]; rfl
  | succ n ih =>
    rw [bitsAt_succ, index_cons, ih, bitsAt_len, Nat.pow_succ, Nat.mod_mul]
    push_cast
    rw [Int.mul_comm, Int.add_comm]
theorem index_bits_lt {n k : Nat} (h : k < 2 ^ n) : (indexOf (bitsAt n (k : Int))).toNat = k := by
  rw [index_bits, Nat.mod_eq_of_lt h]
  exact Int.toNat_natCast _
theorem pow_split {m n i : Nat} (h : i < 2 ^ (m + n)) : i / 2 ^ n < 2 ^ m := by
  rw [Nat.pow_add] at h
  exact Nat.div_lt_of_lt_mul (by rw [Nat.mul_comm]; exact h)
/-! ### sums that are gathered place by place -/
section
variable {n T : Nat} {g : Nat → Nat → Nat} {h : Nat → Option (Nat × Nat)} {v : Nat → Int} {p : Int}
structure Acc (n T : Nat) (g : Nat → Nat → Nat) (h : Nat → Option (Nat × Nat)) : Prop where
  lt : ∀ b r, b < 2 → r < n → g b r < T
  to : ∀ t b r, t < T → h t = some (b, r) → b < 2 ∧ r < n ∧ g b r = t
  of : ∀ b r, b < 2 → r < n → h (g b r) = some (b, r)
def accS (g : Nat → Nat → Nat) (v : Nat → Int) (t r : Nat) : Int := (if g 0 r < t then v (g 0 r) else 0) + (if g 1 r < t then v (g 1 r) else 0)
def accD (n : Nat) (g : Nat → Nat → Nat) (v : Nat → Int) (p : Int) (t : Nat) : List Int := (List.range n).map fun r => accS g v t r % p
theorem acc_len {t : Nat} : (accD n g v p t).length = n := by unfold accD; rw [List.length_map, List.length_range]
theorem acc_at {t i : Nat} (h : i < (accD n g v p t).length) : (accD n g v p t)[i] = accS g v t i % p := by
  simp only [accD, List.getElem_map, List.getElem_range]
theorem acc_zero (n : Nat) (g : Nat → Nat → Nat) (v : Nat → Int) (p : Int) : accD n g v p 0 = List.replicate n 0 := by
  refine List.ext_getElem (by rw [acc_len, List.length_replicate]) fun i h1 h2 => ?_
  rw [acc_at, List.getElem_replicate]
  unfold accS
  rw [if_neg (Nat.not_lt_zero _), if_neg (Nat.not_lt_zero _)]
  exact Int.zero_emod _
theorem accS_ne {t r : Nat} (h0 : g 0 r ≠ t) (h1 : g 1 r ≠ t) : accS g v (t + 1) r = accS g v t r := by
  unfold accS
  congr 1
  · by_cases q : g 0 r < t
    · rw [if_pos q, if_pos (by omega)]
    · rw [if_neg q, if_neg (by omega)]
  · by_cases q : g 1 r < t
    · rw [if_pos q, if_pos (by omega)]
    · rw [if_neg q, if_neg (by omega)]
theorem acc_no (A : Acc n T g h) {t : Nat} (e : h t = none) : accD n g v p (t + 1) = accD n g v p t := by
  unfold accD
  refine List.map_congr_left fun r hr => ?_
  have hr := List.mem_range.mp hr
  rw [accS_ne (fun z => ?_) (fun z => ?_)]
  · have := A.of 0 r (by decide) hr
    rw [z, e] at this
    cases this
  · have := A.of 1 r (by decide) hr
    rw [z, e] at this
    cases this
theorem acc_get {t r : Nat} (hr : r < n) : (accD n g v p t).getD r 0 = accS g v t r % p := by
  unfold accD
  rw [List.getD_eq_getElem?_getD, List.getElem?_map, List.getElem?_range hr]
  rfl
theorem acc_yes (A : Acc n T g h) {t b r : Nat} (ht : t < T) (e : h t = some (b, r)) : accD n g v p (t + 1) = (accD n g v p t).set r (((accD n g v p t).getD r 0 + v t) % p) := by
  obtain ⟨hb, hr, hg⟩ := A.to t b r ht e
  rw [acc_get hr]
  refine List.ext_getElem (by rw [List.length_set, acc_len, acc_len]) fun i h1 h2 => ?_
  rw [acc_len] at h1
  rw [List.getElem_set]
  by_cases q : r = i
  · subst q
    rw [if_pos rfl, acc_at, Int.emod_add_emod]
    congr 1
    have ne : ∀ b', b' < 2 → b' ≠ b → g b' r ≠ t := fun b' hb' nb z => by
      have := A.of b' r hb' hr
      rw [z, e] at this
      cases this
      exact nb rfl
    unfold accS
    have : b = 0 ∨ b = 1 := by omega
    rcases this with rfl | rfl
    · have n1 := ne 1 (by decide) (by decide)
      rw [hg, if_pos (Nat.lt_succ_self t), if_neg (Nat.lt_irrefl t)]
      by_cases q : g 1 r < t
      · rw [if_pos q, if_pos (Nat.lt_succ_of_lt q)]; omega
      · rw [if_neg q, if_neg (by omega : ¬ g 1 r < t + 1)]; omega
    · have n1 := ne 0 (by decide) (by decide)
      rw [hg, if_pos (Nat.lt_succ_self t), if_neg (Nat.lt_irrefl t)]
      by_cases q : g 0 r < t
      · rw [if_pos q, if_pos (Nat.lt_succ_of_lt q)]; omega
      · rw [if_neg q, if_neg (by omega : ¬ g 0 r < t + 1)]; omega
  · rw [if_neg q, acc_at, acc_at]
    rw [accS_ne (fun z => ?_) (fun z => ?_)]
    · have := A.of 0 i (by decide) h1
      rw [z, e] at this
      cases this
      exact q rfl
    · have := A.of 1 i (by decide) h1
      rw [z, e] at this
      cases this
      exact q rfl
theorem acc_end (A : Acc n T g h) : accD n g v p T = (List.range n).map fun r => (v (g 0 r) + v (g 1 r)) % p := by
  unfold accD
  refine List.map_congr_left fun r hr => ?_
  have hr := List.mem_range.mp hr
  unfold accS
  rw [if_pos (A.lt 0 r (by decide) hr), if_pos (A.lt 1 r (by decide) hr)]
end

end K03

set_option maxRecDepth 100000
set_option maxHeartbeats 8000000
namespace K03
open PySem PySem.Spec PyProof.Rows L2 LamX NdefX DLX DL
variable {Pr : Program} {w : World} {K : PySem.W.Frag} {mg : Str → Option Value} {base : Heap} {P : Gl0}
variable {C tbs : Nat → Addr}
/-! ### beside, closed, joined -/
def c_need_two (C : Nat → Addr) : Ctr := fun ds Q Qx => ∃ d1 d2 b1, ds = [d1, d2] ∧ isIns (C 4) d1 = some b1 ∧ (b1 = false → Qx ⟨(C 2), [("part", .non)]⟩) ∧ (b1 = true → ∃ b2, isIns (C 4) d2 = some b2 ∧ (b2 = false → Qx ⟨(C 2), [("part", .non)]⟩) ∧
  (b2 = true → ∃ (p1 p2 : Int) (l1 l2 : D) (t1 t2 : List Int), d1 = ruleD C p1 l1 (intsL t1) ∧ d2 = ruleD C p2 l2 (intsL t2) ∧ (p1 ≠ p2 → Qx ⟨(C 2), [("part", .str "other")]⟩) ∧ (p1 = p2 → Q .non)))
theorem sc_need_two : FnScope ["rule", "other"] ["rule", "other"] (defScope s_need_two) := ⟨rfl, rfl, rfl, by decide +kernel, rfl, by decide +kernel, by decide +kernel⟩
theorem ok_need_two {f : Addr} {fd : FuncData} (F : L2.Fun K "need_two" "need_two" s_need_two f fd) (M : MC Pr w K mg base C) (F_need_rule : FD Pr w K mg base "need_rule" 2 ["thing"] (spD (PP K C tbs) (fun _ => True) 1 (c_need_rule C))) : FnG Pr w K mg base (L2.CX Pr w) 3 f fd ["rule", "other"] (spD (PP K C tbs) (fun _ => True) 2 (c_need_two C)) := by
  have nd := sc_need_two.nd
  have T := txt (tbs := tbs) M
  refine fnD (k := 2) F sc_need_two (fun g hgp cdv A outer s H E hr hgd => (ss_cons (s_expr (d_callF F_need_rule (hr.mono (by decide)) hgd rfl trivial (a_cons (d_var 0) a_nil))) (ss_cons (s_expr (d_callF F_need_rule (hr.mono (by decide)) hgd rfl trivial (a_cons (d_var 1) a_nil))) (ss_one (s_if (t_cmp (o_neS hr.units) (d_attr T (d_var 0)) (d_attr T (d_var 1)) (by rfl)) (ss_one (s_raiX rfl M.i_BadRule (hr.mono (by decide)) rfl M.c_BadRule d_str)) ss_nil))))) ?_
  intro ds Qd Qx hl hc
  obtain ⟨d1, d2, b1, rfl, hb1, h1, h2⟩ := hc
  rw [show startS ["rule", "other"] [d1, d2] = [.v d1, .v d2] from rfl]
  dsimp only [DL.vAsg, DL.vFor, DL.vSeqI, DL.vNeg, DL.vPar, DL.vDct, DL.rMem, DL.vEnum, DL.vRepL, DL.vRepr, DL.rRepr, DL.vIsiT, DL.vCallK, DL.vLenS, DL.vRaiX, DL.vRai0, DL.vFld, DL.rMulA, DL.rEqO, DL.rNeO, DL.vTryAs, DL.vCallW, DL.vCallH, DL.vBorL, DL.vStar, DL.vRev, DL.rRev, DL.vZip, DL.items2, DL.seqOf, DL.vAsgO, DL.vNilO, DL.vConsO, DL.vOwnO, DL.setO, DL.rSumA, DL.vBoxI, DL.vBoxS, DL.vCells, DL.vPopOr, DL.vScr, DL.vV, DL.vC, DL.vOp, DL.isB, DL.vTest, DL.vAnd, DL.vOr, DL.vNot, DL.vAndV, DL.vOrV, DL.vNotV, DL.vIf, DL.isNon, DL.vIsN, DL.vNotN, DL.vNil, DL.vCons, DL.vTup, DL.vLst, DL.rAdd, DL.rSub, DL.rMul, DL.rInt, DL.rDiv, DL.rMod, DL.rPow, DL.rShl, DL.rLt, DL.rLe, DL.rGt, DL.rGe, DL.vChain, DL.rEqS, DL.rNeS, DL.rIx, DL.vIx, DL.vNoPart, DL.isI, DL.vPart, DL.rSl, DL.vSl, DL.vCB, DL.rLen, DL.rAbs, DL.rMax2, DL.rMin2, DL.rIntOf, DL.rListOf, DL.rTupleOf, DL.vNext, DL.vSeq, DL.vBreak, DL.vCont, DL.vNever, DL.vFrz, DL.vBor, DL.vBorT, DL.vSet, DL.vDrop, DL.vRet, DL.vRetN, DL.vIfS, DL.vNew, DL.vOwn, DL.isL, DL.isIn, DL.isOwnL, DL.vApp, DL.vSto, DL.gV, DL.gT, DL.vRng1, DL.vRng2, DL.vYes, DL.vLc, DL.vCall, DL.vAttr, DL.vIsi, DL.vMk0, DL.vMkX, endsD, endsI, startI, isInsA, putD, capS, List.getElem?_cons_zero, List.getElem?_cons_succ, List.set_cons_zero, List.set_cons_succ, frz, frz1, wipeS, setN, noOwn, DL.isNon, Bool.not_true, Bool.not_false, List.length_cons, List.length_nil, List.map, c_need_rule]
  refine ⟨rfl, d1, b1, rfl, hb1, fun e1 => ?_, h1⟩
  obtain ⟨b2, hb2, h3, h4⟩ := h2 e1
  refine ⟨rfl, d2, b2, rfl, hb2, fun e2 => ?_, h3⟩
  obtain ⟨p1, p2, l1, l2, t1, t2, rfl, rfl, h5, h6⟩ := h4 e2
  dsimp only [ruleD]
  refine ⟨rfl, M.a_Rule_prime, some1 ⟨rfl, M.a_Rule_prime, some1 ?_⟩⟩
  dsimp only
  cases e : decide (p1 = p2) with
  | true => exact h6 (of_decide_eq_true e)
  | false => exact h5 (of_decide_eq_false e)
theorem need_rule_mono {ds : List D} {Q Q' : D → Prop} {Qx : Err → Prop} (h : Q .non → Q' .non) (c : c_need_rule C ds Q Qx) : c_need_rule C ds Q' Qx := by
  obtain ⟨d, b, e, hb, h1, h2⟩ := c
  exact ⟨d, b, e, hb, fun z => h (h1 z), h2⟩
theorem need_leg_mono {ds : List D} {Q Q' : D → Prop} {Qx : Err → Prop} (h : Q .non → Q' .non) (c : c_need_leg C ds Q Qx) : c_need_leg C ds Q' Qx := by
  obtain ⟨p, legs, d, ns, n, part, e, hn, h1, h2⟩ := c
  exact ⟨p, legs, d, ns, n, part, e, hn, fun z => h (h1 z), h2⟩
theorem need_two_mono {ds : List D} {Q Q' : D → Prop} {Qx : Err → Prop} (h : Q .non → Q' .non) (c : c_need_two C ds Q Qx) : c_need_two C ds Q' Qx := by
  obtain ⟨d1, d2, b1, e, hb, h1, h2⟩ := c
  refine ⟨d1, d2, b1, e, hb, h1, fun z => ?_⟩
  obtain ⟨b2, hb2, h3, h4⟩ := h2 z
  refine ⟨b2, hb2, h3, fun z => ?_⟩
  obtain ⟨p1, p2, l1, l2, t1, t2, e1, e2, h5, h6⟩ := h4 z
  exact ⟨p1, p2, l1, l2, t1, t2, e1, e2, h5, fun z => h (h6 z)⟩
def tabBeside (p : Int) (m n : Nat) (t1 t2 : List Int) : List Int := (List.range (2 ^ (m + n))).map fun (i : Nat) => t1.getD (i / 2 ^ n) 0 * t2.getD (i % 2 ^ n) 0 % p
def c_beside (C : Nat → Addr) : Ctr := fun ds Q Qx => ds.length = 2 ∧ c_need_two C ds (fun _ => ∃ (p : Int) (m n : Nat) (t1 t2 : List Int), ds = [ruleD C p (.int m) (intsL t1), ruleD C p (.int n) (intsL t2)] ∧ Tab p m t1 ∧ Tab p n t2 ∧ (8 < m + n → Qx ⟨(C 3), [("most", .int 8)]⟩) ∧ (m + n ≤ 8 → Q (ruleD C p (.int (m + n : Nat)) (intsL (tabBeside p m n t1 t2))))) Qx
theorem sc_beside : FnScope ["rule", "other", "many"] ["rule", "other"] (defScope s_beside) := ⟨rfl, rfl, rfl, by decide +kernel, rfl, by decide +kernel, by decide +kernel⟩
theorem tab_nat {p : Int} {legs k : Nat} {ns : List Int} (t : Tab p legs ns) (h : k < 2 ^ legs) : L2.atI ns (k : Int) = some (ns.getD k 0) := by
  have := atI_getD (ns := ns) (i := (k : Int)) (by omega) (by rw [t.len]; omega)
  rwa [Int.toNat_natCast] at this
theorem tab_in {p : Int} {legs k : Nat} {ns : List Int} (t : Tab p legs ns) (h : k < 2 ^ legs) : 0 ≤ ns.getD k 0 ∧ ns.getD k 0 < p := by
  have := t.inn _ (getD_mem (ns := ns) (i := (k : Int)) (by omega) (by rw [t.len]; omega))
  rwa [Int.toNat_natCast] at this
theorem ok_beside {f : Addr} {fd : FuncData} (F : L2.Fun K "beside" "beside" s_beside f fd) (M : MC Pr w K mg base C) (F_at : FD Pr w K mg base "at" 2 ["rule", "bits"] (spD (PP K C tbs) (fun _ => True) 2 (c_at C))) (F_made : FD Pr w K mg base "made" 6 ["prime", "legs", "work"] (spH Pr w K mg base (PP K C tbs) (fun _ => True) 3 5 (c_made C))) (F_need_two : FD Pr w K mg base "need_two" 3 ["rule", "other"] (spD (PP K C tbs) (fun _ => True) 2 (c_need_two C))) {cA : Addr} (LT : LTab base mg (PP K C tbs) cA (nm_beside)) (hfc : fd.code = .ref cA) : FnG Pr w K mg base (L2.CX Pr w) 7 f fd ["rule", "other"] (spD (PP K C tbs) (fun _ => True) 2 (c_beside C)) := by
  have nd := sc_beside.nd
  have T := txt (tbs := tbs) M
  have CD := (show CloD Pr w K mg base (PP K C tbs) (fun _ => True) 4 (defScope s_beside) ["rule", "other", "many"] _ from (CloD.lam (N' := ["bits", "rule", "other", "many"]) (ps := ["bits"]) (fr := ["rule", "other", "many"]) (js := [0, 1, 2]) (n := 1) (m := 0) 1 rfl rfl (nscopeC_by (by decide +kernel)) (by decide +kernel) rfl (fun _ _ _ _ _ us hl => match us, hl with | [_], _ => rfl) (fun g hgp cl c' f A outer s H E hr hgd => (d_op o_mulA (d_callF F_at (hr.mono (by decide)) hgd rfl trivial (a_cons (d_var 1) (a_cons (d_slice (d_var 0) do_none (do_some (d_var 3))) a_nil))) (d_callF F_at (hr.mono (by decide)) hgd rfl trivial (a_cons (d_var 2) (a_cons (d_slice (d_var 0) (do_some (d_var 3)) do_none) a_nil))))) CloD.nil))
  refine fnDC (k := 6) F sc_beside (fun g hgp cdv hcd A outer s H E hr hgd cs hcs => (ss_cons (s_expr (d_callF F_need_two (hr.mono (by decide)) hgd rfl trivial (a_cons (d_var 0) (a_cons (d_var 1) a_nil)))) (ss_cons (s_set 2 nd (d_attr T (d_var 0))) (ss_one (s_ret (d_callH hcs F_made CD.frB (by decide) (hr.mono (by decide)) hgd rfl hgp (a_cons (d_attr T (d_var 0)) (a_cons (d_op o_add (d_var 2) (d_attr T (d_var 1))) (a_cons (d_lam 1 hcs (LT.lam (hcd.symm.trans hfc)) rfl rfl (ndef_free (sc := defScope s_beside) (fr := ["rule", "other", "many"]) (by decide +kernel))) a_nil))))))))) ?_
  intro cs ds Qd Qx hl hc
  obtain ⟨d1, d2, rfl⟩ : ∃ d1 d2, ds = [d1, d2] := by
    match ds, hl with
    | [d1, d2], _ => exact ⟨d1, d2, rfl⟩
  rw [show startS ["rule", "other", "many"] [d1, d2] = [.v d1, .v d2, .u] from rfl]
  refine seq_hide fun V1 hV1 => ?_
  dsimp only [DL.vAsg, DL.vFor, DL.vSeqI, DL.vNeg, DL.vPar, DL.vDct, DL.vEnum, DL.vRepL, DL.vRepr, DL.rRepr, DL.vIsiT, DL.vCallK, DL.vLenS, DL.vRaiX, DL.vRai0, DL.vFld, DL.rMulA, DL.rEqO, DL.rNeO, DL.vTryAs, DL.vCallW, DL.vCallH, DL.vBorL, DL.vStar, DL.vRev, DL.rRev, DL.vZip, DL.items2, DL.seqOf, DL.vAsgO, DL.vNilO, DL.vConsO, DL.vOwnO, DL.setO, DL.rSumA, DL.vBoxI, DL.vBoxS, DL.vCells, DL.vPopOr, DL.vScr, DL.vV, DL.vC, DL.vOp, DL.isB, DL.vTest, DL.vAnd, DL.vOr, DL.vNot, DL.vAndV, DL.vOrV, DL.vNotV, DL.vIf, DL.isNon, DL.vIsN, DL.vNotN, DL.vNil, DL.vCons, DL.vTup, DL.vLst, DL.rAdd, DL.rSub, DL.rMul, DL.rInt, DL.rDiv, DL.rMod, DL.rPow, DL.rShl, DL.rLt, DL.rLe, DL.rGt, DL.rGe, DL.vChain, DL.rIx, DL.vIx, DL.vNoPart, DL.isI, DL.vPart, DL.rSl, DL.vSl, DL.vCB, DL.rLen, DL.rAbs, DL.rMax2, DL.rMin2, DL.rIntOf, DL.rListOf, DL.rTupleOf, DL.vNext, DL.vSeq, DL.vBreak, DL.vCont, DL.vNever, DL.vFrz, DL.vBor, DL.vBorT, DL.vSet, DL.vDrop, DL.vRet, DL.vRetN, DL.vIfS, DL.vNew, DL.vOwn, DL.isL, DL.isIn, DL.isOwnL, DL.vApp, DL.vSto, DL.gV, DL.gT, DL.vRng1, DL.vRng2, DL.vYes, DL.vLc, DL.vCall, DL.vAttr, DL.vIsi, DL.vMk0, DL.vMkX, endsD, endsI, startI, isInsA, putD, capS, List.getElem?_cons_zero, List.getElem?_cons_succ, List.set_cons_zero, List.set_cons_succ, frz, frz1, wipeS, setN, noOwn, DL.isNon, Bool.not_true, Bool.not_false, List.length_cons, List.length_nil, List.map]
  refine ⟨rfl, need_two_mono (fun hq => ?_) hc.2⟩
  obtain ⟨p, m, n, t1, t2, e, T1, T2, h9, h8⟩ := hq
  cases e
  rw [hV1]
  clear hV1 hc
  refine seq_hide fun V1 hV1 => ?_
  dsimp only [DL.vAsg, DL.vFor, DL.vSeqI, DL.vNeg, DL.vPar, DL.vDct, DL.vEnum, DL.vRepL, DL.vRepr, DL.rRepr, DL.vIsiT, DL.vCallK, DL.vLenS, DL.vRaiX, DL.vRai0, DL.vFld, DL.rMulA, DL.rEqO, DL.rNeO, DL.vTryAs, DL.vCallW, DL.vCallH, DL.vBorL, DL.vStar, DL.vRev, DL.rRev, DL.vZip, DL.items2, DL.seqOf, DL.vAsgO, DL.vNilO, DL.vConsO, DL.vOwnO, DL.setO, DL.rSumA, DL.vBoxI, DL.vBoxS, DL.vCells, DL.vPopOr, DL.vScr, DL.vV, DL.vC, DL.vOp, DL.isB, DL.vTest, DL.vAnd, DL.vOr, DL.vNot, DL.vAndV, DL.vOrV, DL.vNotV, DL.vIf, DL.isNon, DL.vIsN, DL.vNotN, DL.vNil, DL.vCons, DL.vTup, DL.vLst, DL.rAdd, DL.rSub, DL.rMul, DL.rInt, DL.rDiv, DL.rMod, DL.rPow, DL.rShl, DL.rLt, DL.rLe, DL.rGt, DL.rGe, DL.vChain, DL.rIx, DL.vIx, DL.vNoPart, DL.isI, DL.vPart, DL.rSl, DL.vSl, DL.vCB, DL.rLen, DL.rAbs, DL.rMax2, DL.rMin2, DL.rIntOf, DL.rListOf, DL.rTupleOf, DL.vNext, DL.vSeq, DL.vBreak, DL.vCont, DL.vNever, DL.vFrz, DL.vBor, DL.vBorT, DL.vSet, DL.vDrop, DL.vRet, DL.vRetN, DL.vIfS, DL.vNew, DL.vOwn, DL.isL, DL.isIn, DL.isOwnL, DL.vApp, DL.vSto, DL.gV, DL.gT, DL.vRng1, DL.vRng2, DL.vYes, DL.vLc, DL.vCall, DL.vAttr, DL.vIsi, DL.vMk0, DL.vMkX, endsD, endsI, startI, isInsA, putD, capS, List.getElem?_cons_zero, List.getElem?_cons_succ, List.set_cons_zero, List.set_cons_succ, frz, frz1, wipeS, setN, noOwn, DL.isNon, Bool.not_true, Bool.not_false, List.length_cons, List.length_nil, List.map, ruleD]
  refine ⟨rfl, M.a_Rule_legs, some2 (by decide) (some1 ?_)⟩
  rw [hV1]
  clear hV1
  dsimp only [DL.vAsg, DL.vFor, DL.vSeqI, DL.vNeg, DL.vPar, DL.vDct, DL.vEnum, DL.vRepL, DL.vRepr, DL.rRepr, DL.vIsiT, DL.vCallK, DL.vLenS, DL.vRaiX, DL.vRai0, DL.vFld, DL.rMulA, DL.rEqO, DL.rNeO, DL.vTryAs, DL.vCallW, DL.vCallH, DL.vBorL, DL.vStar, DL.vRev, DL.rRev, DL.vZip, DL.items2, DL.seqOf, DL.vAsgO, DL.vNilO, DL.vConsO, DL.vOwnO, DL.setO, DL.rSumA, DL.vBoxI, DL.vBoxS, DL.vCells, DL.vPopOr, DL.vScr, DL.vV, DL.vC, DL.vOp, DL.isB, DL.vTest, DL.vAnd, DL.vOr, DL.vNot, DL.vAndV, DL.vOrV, DL.vNotV, DL.vIf, DL.isNon, DL.vIsN, DL.vNotN, DL.vNil, DL.vCons, DL.vTup, DL.vLst, DL.rAdd, DL.rSub, DL.rMul, DL.rInt, DL.rDiv, DL.rMod, DL.rPow, DL.rShl, DL.rLt, DL.rLe, DL.rGt, DL.rGe, DL.vChain, DL.rIx, DL.vIx, DL.vNoPart, DL.isI, DL.vPart, DL.rSl, DL.vSl, DL.vCB, DL.rLen, DL.rAbs, DL.rMax2, DL.rMin2, DL.rIntOf, DL.rListOf, DL.rTupleOf, DL.vNext, DL.vSeq, DL.vBreak, DL.vCont, DL.vNever, DL.vFrz, DL.vBor, DL.vBorT, DL.vSet, DL.vDrop, DL.vRet, DL.vRetN, DL.vIfS, DL.vNew, DL.vOwn, DL.isL, DL.isIn, DL.isOwnL, DL.vApp, DL.vSto, DL.gV, DL.gT, DL.vRng1, DL.vRng2, DL.vYes, DL.vLc, DL.vCall, DL.vAttr, DL.vIsi, DL.vMk0, DL.vMkX, endsD, endsI, startI, isInsA, putD, capS, List.getElem?_cons_zero, List.getElem?_cons_succ, List.set_cons_zero, List.set_cons_succ, frz, frz1, wipeS, setN, noOwn, DL.isNon, Bool.not_true, Bool.not_false, List.length_cons, List.length_nil, List.map, c_made]
  refine ⟨rfl, M.a_Rule_prime, some1 ⟨rfl, M.a_Rule_legs, some2 (by decide) (some1 ⟨rfl, p, m + n, .clo 1 cs, fun i => t1.getD (i / 2 ^ n) 0 * t2.getD (i % 2 ^ n) 0, rfl, rfl, T1.prime, h9, fun h => ⟨fun i hi Q' hq' => ap_clo rfl ⟨rfl, ?_⟩, h8 h⟩⟩)⟩⟩
  dsimp only [DL.vAsg, DL.vFor, DL.vSeqI, DL.vNeg, DL.vPar, DL.vDct, DL.vEnum, DL.vRepL, DL.vRepr, DL.rRepr, DL.vIsiT, DL.vCallK, DL.vLenS, DL.vRaiX, DL.vRai0, DL.vFld, DL.rMulA, DL.rEqO, DL.rNeO, DL.vTryAs, DL.vCallW, DL.vCallH, DL.vBorL, DL.vStar, DL.vRev, DL.rRev, DL.vZip, DL.items2, DL.seqOf, DL.vAsgO, DL.vNilO, DL.vConsO, DL.vOwnO, DL.setO, DL.rSumA, DL.vBoxI, DL.vBoxS, DL.vCells, DL.vPopOr, DL.vScr, DL.vV, DL.vC, DL.vOp, DL.isB, DL.vTest, DL.vAnd, DL.vOr, DL.vNot, DL.vAndV, DL.vOrV, DL.vNotV, DL.vIf, DL.isNon, DL.vIsN, DL.vNotN, DL.vNil, DL.vCons, DL.vTup, DL.vLst, DL.rAdd, DL.rSub, DL.rMul, DL.rInt, DL.rDiv, DL.rMod, DL.rPow, DL.rShl, DL.rLt, DL.rLe, DL.rGt, DL.rGe, DL.vChain, DL.rIx, DL.vIx, DL.vNoPart, DL.isI, DL.vPart, DL.rSl, DL.vSl, DL.vCB, DL.rLen, DL.rAbs, DL.rMax2, DL.rMin2, DL.rIntOf, DL.rListOf, DL.rTupleOf, DL.vNext, DL.vSeq, DL.vBreak, DL.vCont, DL.vNever, DL.vFrz, DL.vBor, DL.vBorT, DL.vSet, DL.vDrop, DL.vRet, DL.vRetN, DL.vIfS, DL.vNew, DL.vOwn, DL.isL, DL.isIn, DL.isOwnL, DL.vApp, DL.vSto, DL.gV, DL.gT, DL.vRng1, DL.vRng2, DL.vYes, DL.vLc, DL.vCall, DL.vAttr, DL.vIsi, DL.vMk0, DL.vMkX, endsD, endsI, startI, isInsA, putD, capS, List.getElem?_cons_zero, List.getElem?_cons_succ, List.set_cons_zero, List.set_cons_succ, frz, frz1, wipeS, setN, noOwn, DL.isNon, Bool.not_true, Bool.not_false, List.length_cons, List.length_nil, List.map, CloT.start, List.map, capS, List.getElem?_cons_zero, List.getElem?_cons_succ, List.cons_append, List.nil_append, List.replicate]
  rw [cut_to, cut_from, bitsAt_take, bitsAt_drop]
  have h1 := pow_split hi
  have h2 : i % 2 ^ n < 2 ^ n := Nat.mod_lt _ (Nat.two_pow_pos n)
  refine ⟨rfl, p, .int m, _, t1, bitsAt m ((i / 2 ^ n : Nat) : Int), t1.getD (i / 2 ^ n) 0, rfl, rfl, ?_, ⟨rfl, p, .int n, _, t2, bitsAt n (i : Int), t2.getD (i % 2 ^ n) 0, rfl, rfl, ?_, .inl ⟨?_, ?_⟩, hq'⟩⟩
  rotate_right 2
  · have := tab_in T1 h1; have := prime_in T1.prime; omega
  · have := tab_in T1 h1; have := prime_in T1.prime; omega
  · rw [index_bits, Nat.mod_eq_of_lt h1]
    exact tab_nat T1 h1
  · rw [index_bits]
    exact tab_nat T2 h2
/-- two equal bits put in -/
def withB (lo hi : Nat) (b : Int) (bs : List Int) : List Int := setB hi b (setB lo b bs)
def c_with_legs (C : Nat → Addr) : Ctr := fun ds Q _ => ∃ (bs : List Int) (one other : Nat) (b : Int), ds = [.tup (intsL bs), .int one, .int other, .int b] ∧ bs.length ≤ 8 ∧ Q (.lst (intsL (withB (min one other) (max one other) b bs)))
theorem setB_len {l : Nat} {b : Int} {bs : List Int} : (setB l b bs).length = bs.length + 1 := by
  unfold setB
  rw [List.length_append, List.length_cons, List.length_take, List.length_drop]
  omega
theorem setB_ints {l : Nat} {b : Int} {bs : List Int} : intsL (bs.take l) ++ D.int b :: intsL (bs.drop l) = intsL (setB l b bs) := by
  unfold setB intsL
  rw [List.map_append, List.map_cons]
theorem sc_with_legs : FnScope ["bits", "one", "other", "bit", "low", "high", "some"] ["bits", "one", "other", "bit"] (defScope s_with_legs) := ⟨rfl, rfl, rfl, by decide +kernel, rfl, by decide +kernel, by decide +kernel⟩
theorem ok_with_legs {f : Addr} {fd : FuncData} (F : L2.Fun K "with_legs" "with_legs" s_with_legs f fd) (M : MC Pr w K mg base C)  : FnG Pr w K mg base (L2.CX Pr w) 1 f fd ["bits", "one", "other", "bit"] (spD (PP K C tbs) (fun _ => True) 4 (c_with_legs C)) := by
  have nd := sc_with_legs.nd
  have T := txt (tbs := tbs) M
  refine fnD (k := 0) F sc_with_legs (fun g hgp cdv A outer s H E hr hgd => (ss_cons (s_par (i := 4) (j := 5) rfl nd (a_cons (d_callB (c_min2 rfl) rfl M.b_min (by first | rfl | decide +kernel) (a_cons (d_var 1) (a_cons (d_var 2) a_nil))) (a_cons (d_callB (c_max2 rfl) rfl M.b_max (by first | rfl | decide +kernel) (a_cons (d_var 1) (a_cons (d_var 2) a_nil))) a_nil))) (ss_cons (s_set 6 nd (d_lst (a_star (d_slice (d_var 0) do_none (do_some (d_var 4))) (a_cons (d_var 3) (a_star (d_slice (d_var 0) (do_some (d_var 4)) do_none) a_nil))))) (ss_one (s_ret (d_lst (a_star (d_slice (d_var 6) do_none (do_some (d_var 5))) (a_cons (d_var 3) (a_star (d_slice (d_var 6) (do_some (d_var 5)) do_none) a_nil))))))))) ?_
  intro ds Qd Qx hl hc
  obtain ⟨bs, one, other, b, rfl, h8, hq⟩ := hc
  rw [show startS ["bits", "one", "other", "bit", "low", "high", "some"] [.tup (intsL bs), .int one, .int other, .int b] = [.v (.tup (intsL bs)), .v (.int one), .v (.int other), .v (.int b), .u, .u, .u] from rfl]
  dsimp only [DL.vAsg, DL.vFor, DL.vSeqI, DL.vNeg, DL.vPar, DL.vDct, DL.vEnum, DL.vRepL, DL.vRepr, DL.rRepr, DL.vIsiT, DL.vCallK, DL.vLenS, DL.vRaiX, DL.vRai0, DL.vFld, DL.rMulA, DL.rEqO, DL.rNeO, DL.vTryAs, DL.vCallW, DL.vCallH, DL.vBorL, DL.vStar, DL.vRev, DL.rRev, DL.vZip, DL.items2, DL.seqOf, DL.vAsgO, DL.vNilO, DL.vConsO, DL.vOwnO, DL.setO, DL.rSumA, DL.vBoxI, DL.vBoxS, DL.vCells, DL.vPopOr, DL.vScr, DL.vV, DL.vC, DL.vOp, DL.isB, DL.vTest, DL.vAnd, DL.vOr, DL.vNot, DL.vAndV, DL.vOrV, DL.vNotV, DL.vIf, DL.isNon, DL.vIsN, DL.vNotN, DL.vNil, DL.vCons, DL.vTup, DL.vLst, DL.rAdd, DL.rSub, DL.rMul, DL.rInt, DL.rDiv, DL.rMod, DL.rPow, DL.rShl, DL.rLt, DL.rLe, DL.rGt, DL.rGe, DL.vChain, DL.rIx, DL.vIx, DL.vNoPart, DL.isI, DL.vPart, DL.rSl, DL.vSl, DL.vCB, DL.rLen, DL.rAbs, DL.rMax2, DL.rMin2, DL.rIntOf, DL.rListOf, DL.rTupleOf, DL.vNext, DL.vSeq, DL.vBreak, DL.vCont, DL.vNever, DL.vFrz, DL.vBor, DL.vBorT, DL.vSet, DL.vDrop, DL.vRet, DL.vRetN, DL.vIfS, DL.vNew, DL.vOwn, DL.isL, DL.isIn, DL.isOwnL, DL.vApp, DL.vSto, DL.gV, DL.gT, DL.vRng1, DL.vRng2, DL.vYes, DL.vLc, DL.vCall, DL.vAttr, DL.vIsi, DL.vMk0, DL.vMkX, endsD, endsI, startI, isInsA, putD, capS, List.getElem?_cons_zero, List.getElem?_cons_succ, List.set_cons_zero, List.set_cons_succ, frz, frz1, wipeS, setN, noOwn, DL.isNon, Bool.not_true, Bool.not_false, List.length_cons, List.length_nil, List.map, DL.vPar]
  rw [show (if (other : Int) < (one : Int) then (other : Int) else (one : Int)) = ((min one other : Nat) : Int) by split <;> omega, show (if (other : Int) > (one : Int) then (other : Int) else (one : Int)) = ((max one other : Nat) : Int) by split <;> omega]
  rw [cut_to, cut_from, List.append_nil, setB_ints, cut_to, cut_from, List.append_nil, setB_ints]
  exact ⟨by rw [intsL_len, setB_len]; omega, by rw [intsL_len, setB_len, setB_len]; omega, hq⟩

end K03

set_option maxRecDepth 100000
set_option maxHeartbeats 8000000
namespace K03
open PySem PySem.Spec PyProof.Rows L2 LamX NdefX DLX DL
variable {Pr : Program} {w : World} {K : PySem.W.Frag} {mg : Str → Option Value} {base : Heap} {P : Gl0}
variable {C tbs : Nat → Addr}
theorem setB01 {l : Nat} {b : Int} {bs : List Int} (hb : 0 ≤ b ∧ b ≤ 1) (h : ∀ x ∈ bs, 0 ≤ x ∧ x ≤ 1) : ∀ x ∈ setB l b bs, 0 ≤ x ∧ x ≤ 1 := fun x hx => by
  unfold setB at hx
  rcases List.mem_append.mp hx with q | q
  · exact h x (List.mem_of_mem_take q)
  · rcases List.mem_cons.mp q with q | q
    · rw [q]; exact hb
    · exact h x (List.mem_of_mem_drop q)
theorem withB_ok {legs lo hi i : Nat} {b : Int} (h2 : 2 ≤ legs) (hb : 0 ≤ b ∧ b ≤ 1) : (withB lo hi b (bitsAt (legs - 2) i)).length = legs ∧ ∀ x ∈ withB lo hi b (bitsAt (legs - 2) i), 0 ≤ x ∧ x ≤ 1 := by
  refine ⟨?_, setB01 hb (setB01 hb fun x hx => bits01 hx)⟩
  unfold withB
  rw [setB_len, setB_len, bitsAt_len]
  omega
/-- where a closed rule's worths stand -/
def cIx (legs lo hi b i : Nat) : Nat := (indexOf (withB lo hi (b : Int) (bitsAt (legs - 2) (i : Int)))).toNat
def tabClosed (p : Int) (legs lo hi : Nat) (t : List Int) : List Int := (List.range (2 ^ (legs - 2))).map fun (i : Nat) => (t.getD (cIx legs lo hi 0 i) 0 + t.getD (cIx legs lo hi 1 i) 0) % p
def c_closed (C : Nat → Addr) : Ctr := fun ds Q Qx => ∃ d1 d2 d3, ds = [d1, d2, d3] ∧ c_need_rule C [d1] (fun _ => c_need_leg C [d1, d2, .str "leg"] (fun _ => c_need_leg C [d1, d3, .str "other"] (fun _ => ∃ (p : Int) (legs l o : Nat) (t : List Int), d1 = ruleD C p (.int legs) (intsL t) ∧ d2 = .int l ∧ d3 = .int o ∧ Tab p legs t ∧ l < legs ∧ o < legs ∧
  (l = o → Qx ⟨(C 1), [("part", .str "other")]⟩) ∧ (l ≠ o → Q (ruleD C p (.int (legs - 2 : Nat)) (intsL (tabClosed p legs (min l o) (max l o) t))))) Qx) Qx) Qx
theorem sc_closed : FnScope ["rule", "leg", "other", "work"] ["rule", "leg", "other"] (defScope s_closed) := ⟨rfl, rfl, rfl, by decide +kernel, rfl, by decide +kernel, by decide +kernel⟩
theorem ok_closed {f : Addr} {fd : FuncData} (F : L2.Fun K "closed" "closed" s_closed f fd) (M : MC Pr w K mg base C) (F_at : FD Pr w K mg base "at" 2 ["rule", "bits"] (spD (PP K C tbs) (fun _ => True) 2 (c_at C))) (F_made : FD Pr w K mg base "made" 6 ["prime", "legs", "work"] (spH Pr w K mg base (PP K C tbs) (fun _ => True) 3 5 (c_made C))) (F_need_leg : FD Pr w K mg base "need_leg" 3 ["rule", "leg", "part"] (spD (PP K C tbs) (fun _ => True) 3 (c_need_leg C))) (F_need_rule : FD Pr w K mg base "need_rule" 2 ["thing"] (spD (PP K C tbs) (fun _ => True) 1 (c_need_rule C))) (F_with_legs : FD Pr w K mg base "with_legs" 1 ["bits", "one", "other", "bit"] (spD (PP K C tbs) (fun _ => True) 4 (c_with_legs C))) {cA : Addr} (LT : LTab base mg (PP K C tbs) cA (nm_closed)) (hfc : fd.code = .ref cA) : FnG Pr w K mg base (L2.CX Pr w) 7 f fd ["rule", "leg", "other"] (spD (PP K C tbs) (fun _ => True) 3 (c_closed C)) := by
  have nd := sc_closed.nd
  have T := txt (tbs := tbs) M
  have CD := (show CloD Pr w K mg base (PP K C tbs) (fun _ => True) 4 (defScope s_closed) ["rule", "leg", "other", "work"] _ from (CloD.defn (N' := ["bits", "rule", "leg", "other", "bit"]) (ps := ["bits"]) (fr := ["rule", "leg", "other"]) (js := [0, 1, 2]) (n := 1) (m := 1) 2 rfl rfl (nscopeC_by (by decide +kernel)) (by decide +kernel) rfl (fun _ _ _ _ _ us hl => match us, hl with | [_], _ => rfl) (fun g hgp cl c' f A outer s H E hr hgd => (ss_one (s_ret (d_callB (c_sumA rfl) rfl M.b_sum (by first | rfl | decide +kernel) (a_cons (DN.de (n_lc (own := [("bit", 4)]) rfl (show List.Nodup (["bits", "rule", "leg", "other", "bit"] : List Str) from by decide +kernel) (i_seq (d_tup (a_cons d_int (a_cons d_int a_nil)))) (blkOk_by (by rfl)) (fun _ _ _ _ _ => (g_name 4 (show List.Nodup (["bits", "rule", "leg", "other", "bit"] : List Str) from by decide +kernel) (js := [4]))) (fun _ _ _ _ _ => ts_nil) (fun _ _ _ _ _ => (d_callF F_at (hr.mono (by decide)) hgd rfl trivial (a_cons (d_var 1) (a_cons (d_callF F_with_legs (hr.mono (by decide)) hgd rfl trivial (a_cons (d_var 0) (a_cons (d_var 2) (a_cons (d_var 3) (a_cons (d_var 4) a_nil))))) a_nil)))))) a_nil))))) CloD.nil))
  refine fnDC (k := 6) F sc_closed (fun g hgp cdv hcd A outer s H E hr hgd cs hcs => (ss_cons (s_expr (d_callF F_need_rule (hr.mono (by decide)) hgd rfl trivial (a_cons (d_var 0) a_nil))) (ss_cons (s_expr (d_callF F_need_leg (hr.mono (by decide)) hgd rfl trivial (a_cons (d_var 0) (a_cons (d_var 1) (a_cons d_str a_nil))))) (ss_cons (s_expr (d_callF F_need_leg (hr.mono (by decide)) hgd rfl trivial (a_cons (d_var 0) (a_cons (d_var 2) (a_cons d_str a_nil))))) (ss_cons (s_if (t_cmp (o_eqS hr.units) (d_var 2) (d_var 1) (by rfl)) (ss_one (s_raiX rfl M.i_BadNumber (hr.mono (by decide)) rfl M.c_BadNumber d_str)) ss_nil) (ss_cons (s_ndef 2 3 hcs (LT.lam (hcd.symm.trans hfc)) nd rfl rfl (ndef_free (sc := defScope s_closed) (fr := ["rule", "leg", "other"]) (by decide +kernel))) (ss_one (s_ret (d_callH hcs F_made CD.frB (by decide) (hr.mono (by decide)) hgd rfl hgp (a_cons (d_attr T (d_var 0)) (a_cons (d_op o_sub (d_attr T (d_var 0)) d_int) (a_cons (d_var 3) a_nil)))))))))))) ?_
  intro cs ds Qd Qx hl hc
  obtain ⟨d1, d2, d3, rfl, hc⟩ := hc
  rw [show startS ["rule", "leg", "other", "work"] [d1, d2, d3] = [.v d1, .v d2, .v d3, .u] from rfl]
  refine seq_hide fun V1 hV1 => ?_
  dsimp only [DL.vAsg, DL.vFor, DL.vSeqI, DL.vNeg, DL.vPar, DL.vDct, DL.vEnum, DL.vRepL, DL.vRepr, DL.rRepr, DL.vIsiT, DL.vCallK, DL.vLenS, DL.vRaiX, DL.vRai0, DL.vFld, DL.rMulA, DL.rEqO, DL.rNeO, DL.vTryAs, DL.vCallW, DL.vCallH, DL.vBorL, DL.vStar, DL.vRev, DL.rRev, DL.vZip, DL.items2, DL.seqOf, DL.vAsgO, DL.vNilO, DL.vConsO, DL.vOwnO, DL.setO, DL.rSumA, DL.vBoxI, DL.vBoxS, DL.vCells, DL.vPopOr, DL.vScr, DL.vV, DL.vC, DL.vOp, DL.isB, DL.vTest, DL.vAnd, DL.vOr, DL.vNot, DL.vAndV, DL.vOrV, DL.vNotV, DL.vIf, DL.isNon, DL.vIsN, DL.vNotN, DL.vNil, DL.vCons, DL.vTup, DL.vLst, DL.rAdd, DL.rSub, DL.rMul, DL.rInt, DL.rDiv, DL.rMod, DL.rPow, DL.rShl, DL.rLt, DL.rLe, DL.rGt, DL.rGe, DL.vChain, DL.rIx, DL.vIx, DL.vNoPart, DL.isI, DL.vPart, DL.rSl, DL.vSl, DL.vCB, DL.rLen, DL.rAbs, DL.rMax2, DL.rMin2, DL.rIntOf, DL.rListOf, DL.rTupleOf, DL.vNext, DL.vSeq, DL.vBreak, DL.vCont, DL.vNever, DL.vFrz, DL.vBor, DL.vBorT, DL.vSet, DL.vDrop, DL.vRet, DL.vRetN, DL.vIfS, DL.vNew, DL.vOwn, DL.isL, DL.isIn, DL.isOwnL, DL.vApp, DL.vSto, DL.gV, DL.gT, DL.vRng1, DL.vRng2, DL.vYes, DL.vLc, DL.vCall, DL.vAttr, DL.vIsi, DL.vMk0, DL.vMkX, endsD, endsI, startI, isInsA, putD, capS, List.getElem?_cons_zero, List.getElem?_cons_succ, List.set_cons_zero, List.set_cons_succ, frz, frz1, wipeS, setN, noOwn, DL.isNon, Bool.not_true, Bool.not_false, List.length_cons, List.length_nil, List.map]
  refine ⟨rfl, need_rule_mono (fun hc => ?_) hc⟩
  rw [hV1]
  clear hV1
  refine seq_hide fun V1 hV1 => ?_
  dsimp only [DL.vAsg, DL.vFor, DL.vSeqI, DL.vNeg, DL.vPar, DL.vDct, DL.vEnum, DL.vRepL, DL.vRepr, DL.rRepr, DL.vIsiT, DL.vCallK, DL.vLenS, DL.vRaiX, DL.vRai0, DL.vFld, DL.rMulA, DL.rEqO, DL.rNeO, DL.vTryAs, DL.vCallW, DL.vCallH, DL.vBorL, DL.vStar, DL.vRev, DL.rRev, DL.vZip, DL.items2, DL.seqOf, DL.vAsgO, DL.vNilO, DL.vConsO, DL.vOwnO, DL.setO, DL.rSumA, DL.vBoxI, DL.vBoxS, DL.vCells, DL.vPopOr, DL.vScr, DL.vV, DL.vC, DL.vOp, DL.isB, DL.vTest, DL.vAnd, DL.vOr, DL.vNot, DL.vAndV, DL.vOrV, DL.vNotV, DL.vIf, DL.isNon, DL.vIsN, DL.vNotN, DL.vNil, DL.vCons, DL.vTup, DL.vLst, DL.rAdd, DL.rSub, DL.rMul, DL.rInt, DL.rDiv, DL.rMod, DL.rPow, DL.rShl, DL.rLt, DL.rLe, DL.rGt, DL.rGe, DL.vChain, DL.rIx, DL.vIx, DL.vNoPart, DL.isI, DL.vPart, DL.rSl, DL.vSl, DL.vCB, DL.rLen, DL.rAbs, DL.rMax2, DL.rMin2, DL.rIntOf, DL.rListOf, DL.rTupleOf, DL.vNext, DL.vSeq, DL.vBreak, DL.vCont, DL.vNever, DL.vFrz, DL.vBor, DL.vBorT, DL.vSet, DL.vDrop, DL.vRet, DL.vRetN, DL.vIfS, DL.vNew, DL.vOwn, DL.isL, DL.isIn, DL.isOwnL, DL.vApp, DL.vSto, DL.gV, DL.gT, DL.vRng1, DL.vRng2, DL.vYes, DL.vLc, DL.vCall, DL.vAttr, DL.vIsi, DL.vMk0, DL.vMkX, endsD, endsI, startI, isInsA, putD, capS, List.getElem?_cons_zero, List.getElem?_cons_succ, List.set_cons_zero, List.set_cons_succ, frz, frz1, wipeS, setN, noOwn, DL.isNon, Bool.not_true, Bool.not_false, List.length_cons, List.length_nil, List.map]
  refine ⟨rfl, need_leg_mono (fun hc => ?_) hc⟩
  rw [hV1]
  clear hV1
  refine seq_hide fun V1 hV1 => ?_
  dsimp only [DL.vAsg, DL.vFor, DL.vSeqI, DL.vNeg, DL.vPar, DL.vDct, DL.vEnum, DL.vRepL, DL.vRepr, DL.rRepr, DL.vIsiT, DL.vCallK, DL.vLenS, DL.vRaiX, DL.vRai0, DL.vFld, DL.rMulA, DL.rEqO, DL.rNeO, DL.vTryAs, DL.vCallW, DL.vCallH, DL.vBorL, DL.vStar, DL.vRev, DL.rRev, DL.vZip, DL.items2, DL.seqOf, DL.vAsgO, DL.vNilO, DL.vConsO, DL.vOwnO, DL.setO, DL.rSumA, DL.vBoxI, DL.vBoxS, DL.vCells, DL.vPopOr, DL.vScr, DL.vV, DL.vC, DL.vOp, DL.isB, DL.vTest, DL.vAnd, DL.vOr, DL.vNot, DL.vAndV, DL.vOrV, DL.vNotV, DL.vIf, DL.isNon, DL.vIsN, DL.vNotN, DL.vNil, DL.vCons, DL.vTup, DL.vLst, DL.rAdd, DL.rSub, DL.rMul, DL.rInt, DL.rDiv, DL.rMod, DL.rPow, DL.rShl, DL.rLt, DL.rLe, DL.rGt, DL.rGe, DL.vChain, DL.rIx, DL.vIx, DL.vNoPart, DL.isI, DL.vPart, DL.rSl, DL.vSl, DL.vCB, DL.rLen, DL.rAbs, DL.rMax2, DL.rMin2, DL.rIntOf, DL.rListOf, DL.rTupleOf, DL.vNext, DL.vSeq, DL.vBreak, DL.vCont, DL.vNever, DL.vFrz, DL.vBor, DL.vBorT, DL.vSet, DL.vDrop, DL.vRet, DL.vRetN, DL.vIfS, DL.vNew, DL.vOwn, DL.isL, DL.isIn, DL.isOwnL, DL.vApp, DL.vSto, DL.gV, DL.gT, DL.vRng1, DL.vRng2, DL.vYes, DL.vLc, DL.vCall, DL.vAttr, DL.vIsi, DL.vMk0, DL.vMkX, endsD, endsI, startI, isInsA, putD, capS, List.getElem?_cons_zero, List.getElem?_cons_succ, List.set_cons_zero, List.set_cons_succ, frz, frz1, wipeS, setN, noOwn, DL.isNon, Bool.not_true, Bool.not_false, List.length_cons, List.length_nil, List.map]
  refine ⟨rfl, need_leg_mono (fun hc => ?_) hc⟩
  obtain ⟨p, legs, l, o, t, rfl, rfl, rfl, T1, hl, ho, h1, h2⟩ := hc
  rw [hV1]
  clear hV1
  refine seq_hide fun V1 hV1 => ?_
  dsimp only [DL.vAsg, DL.vFor, DL.vSeqI, DL.vNeg, DL.vPar, DL.vDct, DL.rMem, DL.vEnum, DL.vRepL, DL.vRepr, DL.rRepr, DL.vIsiT, DL.vCallK, DL.vLenS, DL.vRaiX, DL.vRai0, DL.vFld, DL.rMulA, DL.rEqO, DL.rNeO, DL.vTryAs, DL.vCallW, DL.vCallH, DL.vBorL, DL.vStar, DL.vRev, DL.rRev, DL.vZip, DL.items2, DL.seqOf, DL.vAsgO, DL.vNilO, DL.vConsO, DL.vOwnO, DL.setO, DL.rSumA, DL.vBoxI, DL.vBoxS, DL.vCells, DL.vPopOr, DL.vScr, DL.vV, DL.vC, DL.vOp, DL.isB, DL.vTest, DL.vAnd, DL.vOr, DL.vNot, DL.vAndV, DL.vOrV, DL.vNotV, DL.vIf, DL.isNon, DL.vIsN, DL.vNotN, DL.vNil, DL.vCons, DL.vTup, DL.vLst, DL.rAdd, DL.rSub, DL.rMul, DL.rInt, DL.rDiv, DL.rMod, DL.rPow, DL.rShl, DL.rLt, DL.rLe, DL.rGt, DL.rGe, DL.vChain, DL.rEqS, DL.rNeS, DL.rIx, DL.vIx, DL.vNoPart, DL.isI, DL.vPart, DL.rSl, DL.vSl, DL.vCB, DL.rLen, DL.rAbs, DL.rMax2, DL.rMin2, DL.rIntOf, DL.rListOf, DL.rTupleOf, DL.vNext, DL.vSeq, DL.vBreak, DL.vCont, DL.vNever, DL.vFrz, DL.vBor, DL.vBorT, DL.vSet, DL.vDrop, DL.vRet, DL.vRetN, DL.vIfS, DL.vNew, DL.vOwn, DL.isL, DL.isIn, DL.isOwnL, DL.vApp, DL.vSto, DL.gV, DL.gT, DL.vRng1, DL.vRng2, DL.vYes, DL.vLc, DL.vCall, DL.vAttr, DL.vIsi, DL.vMk0, DL.vMkX, endsD, endsI, startI, isInsA, putD, capS, List.getElem?_cons_zero, List.getElem?_cons_succ, List.set_cons_zero, List.set_cons_succ, frz, frz1, wipeS, setN, noOwn, DL.isNon, Bool.not_true, Bool.not_false, List.length_cons, List.length_nil, List.map]
  refine mb _ (fun e => ?_) (fun e => ?_)
  · exact h1 (by have := of_decide_eq_true e; omega)
  have e := of_decide_eq_false e
  have hlo : l ≠ o := by omega
  have l8 := T1.l8
  rw [hV1]
  clear hV1
  refine seq_hide fun V1 hV1 => ?_
  dsimp only [DL.vAsg, DL.vFor, DL.vSeqI, DL.vNeg, DL.vPar, DL.vDct, DL.vEnum, DL.vRepL, DL.vRepr, DL.rRepr, DL.vIsiT, DL.vCallK, DL.vLenS, DL.vRaiX, DL.vRai0, DL.vFld, DL.rMulA, DL.rEqO, DL.rNeO, DL.vTryAs, DL.vCallW, DL.vCallH, DL.vBorL, DL.vStar, DL.vRev, DL.rRev, DL.vZip, DL.items2, DL.seqOf, DL.vAsgO, DL.vNilO, DL.vConsO, DL.vOwnO, DL.setO, DL.rSumA, DL.vBoxI, DL.vBoxS, DL.vCells, DL.vPopOr, DL.vScr, DL.vV, DL.vC, DL.vOp, DL.isB, DL.vTest, DL.vAnd, DL.vOr, DL.vNot, DL.vAndV, DL.vOrV, DL.vNotV, DL.vIf, DL.isNon, DL.vIsN, DL.vNotN, DL.vNil, DL.vCons, DL.vTup, DL.vLst, DL.rAdd, DL.rSub, DL.rMul, DL.rInt, DL.rDiv, DL.rMod, DL.rPow, DL.rShl, DL.rLt, DL.rLe, DL.rGt, DL.rGe, DL.vChain, DL.rIx, DL.vIx, DL.vNoPart, DL.isI, DL.vPart, DL.rSl, DL.vSl, DL.vCB, DL.rLen, DL.rAbs, DL.rMax2, DL.rMin2, DL.rIntOf, DL.rListOf, DL.rTupleOf, DL.vNext, DL.vSeq, DL.vBreak, DL.vCont, DL.vNever, DL.vFrz, DL.vBor, DL.vBorT, DL.vSet, DL.vDrop, DL.vRet, DL.vRetN, DL.vIfS, DL.vNew, DL.vOwn, DL.isL, DL.isIn, DL.isOwnL, DL.vApp, DL.vSto, DL.gV, DL.gT, DL.vRng1, DL.vRng2, DL.vYes, DL.vLc, DL.vCall, DL.vAttr, DL.vIsi, DL.vMk0, DL.vMkX, endsD, endsI, startI, isInsA, putD, capS, List.getElem?_cons_zero, List.getElem?_cons_succ, List.set_cons_zero, List.set_cons_succ, frz, frz1, wipeS, setN, noOwn, DL.isNon, Bool.not_true, Bool.not_false, List.length_cons, List.length_nil, List.map]
  rw [hV1]
  clear hV1
  dsimp only [DL.vAsg, DL.vFor, DL.vSeqI, DL.vNeg, DL.vPar, DL.vDct, DL.vEnum, DL.vRepL, DL.vRepr, DL.rRepr, DL.vIsiT, DL.vCallK, DL.vLenS, DL.vRaiX, DL.vRai0, DL.vFld, DL.rMulA, DL.rEqO, DL.rNeO, DL.vTryAs, DL.vCallW, DL.vCallH, DL.vBorL, DL.vStar, DL.vRev, DL.rRev, DL.vZip, DL.items2, DL.seqOf, DL.vAsgO, DL.vNilO, DL.vConsO, DL.vOwnO, DL.setO, DL.rSumA, DL.vBoxI, DL.vBoxS, DL.vCells, DL.vPopOr, DL.vScr, DL.vV, DL.vC, DL.vOp, DL.isB, DL.vTest, DL.vAnd, DL.vOr, DL.vNot, DL.vAndV, DL.vOrV, DL.vNotV, DL.vIf, DL.isNon, DL.vIsN, DL.vNotN, DL.vNil, DL.vCons, DL.vTup, DL.vLst, DL.rAdd, DL.rSub, DL.rMul, DL.rInt, DL.rDiv, DL.rMod, DL.rPow, DL.rShl, DL.rLt, DL.rLe, DL.rGt, DL.rGe, DL.vChain, DL.rIx, DL.vIx, DL.vNoPart, DL.isI, DL.vPart, DL.rSl, DL.vSl, DL.vCB, DL.rLen, DL.rAbs, DL.rMax2, DL.rMin2, DL.rIntOf, DL.rListOf, DL.rTupleOf, DL.vNext, DL.vSeq, DL.vBreak, DL.vCont, DL.vNever, DL.vFrz, DL.vBor, DL.vBorT, DL.vSet, DL.vDrop, DL.vRet, DL.vRetN, DL.vIfS, DL.vNew, DL.vOwn, DL.isL, DL.isIn, DL.isOwnL, DL.vApp, DL.vSto, DL.gV, DL.gT, DL.vRng1, DL.vRng2, DL.vYes, DL.vLc, DL.vCall, DL.vAttr, DL.vIsi, DL.vMk0, DL.vMkX, endsD, endsI, startI, isInsA, putD, capS, List.getElem?_cons_zero, List.getElem?_cons_succ, List.set_cons_zero, List.set_cons_succ, frz, frz1, wipeS, setN, noOwn, DL.isNon, Bool.not_true, Bool.not_false, List.length_cons, List.length_nil, List.map, c_made, ruleD]
  refine ⟨rfl, M.a_Rule_prime, some1 ⟨rfl, M.a_Rule_legs, some2 (by decide) (some1 ⟨rfl, p, legs - 2, .clo 2 cs, fun i => t.getD (cIx legs (min l o) (max l o) 0 i) 0 + t.getD (cIx legs (min l o) (max l o) 1 i) 0, by rw [show ((legs - 2 : Nat) : Int) = (legs : Int) - 2 by omega], rfl, T1.prime, fun h => absurd T1.l8 (by omega), fun h => ⟨fun i hi Q' hq' => ap_clo rfl ⟨rfl, ?_⟩, h2 hlo⟩⟩)⟩⟩
  dsimp only [DL.vAsg, DL.vFor, DL.vSeqI, DL.vNeg, DL.vPar, DL.vDct, DL.vEnum, DL.vRepL, DL.vRepr, DL.rRepr, DL.vIsiT, DL.vCallK, DL.vLenS, DL.vRaiX, DL.vRai0, DL.vFld, DL.rMulA, DL.rEqO, DL.rNeO, DL.vTryAs, DL.vCallW, DL.vCallH, DL.vBorL, DL.vStar, DL.vRev, DL.rRev, DL.vZip, DL.items2, DL.seqOf, DL.vAsgO, DL.vNilO, DL.vConsO, DL.vOwnO, DL.setO, DL.rSumA, DL.vBoxI, DL.vBoxS, DL.vCells, DL.vPopOr, DL.vScr, DL.vV, DL.vC, DL.vOp, DL.isB, DL.vTest, DL.vAnd, DL.vOr, DL.vNot, DL.vAndV, DL.vOrV, DL.vNotV, DL.vIf, DL.isNon, DL.vIsN, DL.vNotN, DL.vNil, DL.vCons, DL.vTup, DL.vLst, DL.rAdd, DL.rSub, DL.rMul, DL.rInt, DL.rDiv, DL.rMod, DL.rPow, DL.rShl, DL.rLt, DL.rLe, DL.rGt, DL.rGe, DL.vChain, DL.rIx, DL.vIx, DL.vNoPart, DL.isI, DL.vPart, DL.rSl, DL.vSl, DL.vCB, DL.rLen, DL.rAbs, DL.rMax2, DL.rMin2, DL.rIntOf, DL.rListOf, DL.rTupleOf, DL.vNext, DL.vSeq, DL.vBreak, DL.vCont, DL.vNever, DL.vFrz, DL.vBor, DL.vBorT, DL.vSet, DL.vDrop, DL.vRet, DL.vRetN, DL.vIfS, DL.vNew, DL.vOwn, DL.isL, DL.isIn, DL.isOwnL, DL.vApp, DL.vSto, DL.gV, DL.gT, DL.vRng1, DL.vRng2, DL.vYes, DL.vLc, DL.vCall, DL.vAttr, DL.vIsi, DL.vMk0, DL.vMkX, endsD, endsI, startI, isInsA, putD, capS, List.getElem?_cons_zero, List.getElem?_cons_succ, List.set_cons_zero, List.set_cons_succ, frz, frz1, wipeS, setN, noOwn, DL.isNon, Bool.not_true, Bool.not_false, List.length_cons, List.length_nil, List.map, CloT.start, List.map, capS, List.getElem?_cons_zero, List.getElem?_cons_succ, List.cons_append, List.nil_append, List.replicate]
  have key : ∀ b : Nat, b < 2 → L2.atI t (indexOf (withB (min l o) (max l o) (b : Int) (bitsAt (legs - 2) (i : Int)))) = some (t.getD (cIx legs (min l o) (max l o) b i) 0) := fun b hb => by
    have hw := withB_ok (legs := legs) (lo := min l o) (hi := max l o) (i := i) (b := (b : Int)) (by omega) ⟨by omega, by omega⟩
    exact (tab_at T1 hw.2 hw.1).1
  refine ⟨⟨trivial, trivial⟩, by decide, by decide, lc_ints [0, 1] (fun b => .int (t.getD (cIx legs (min l o) (max l o) b.toNat i) 0)) rfl (fun j x hx acc I hI => ?_) ?_⟩
  · obtain ⟨b, rfl, hb⟩ : ∃ b : Nat, x = b ∧ b < 2 := by
      have := List.mem_of_getElem? hx
      simp only [List.mem_cons, List.not_mem_nil, or_false] at this
      rcases this with rfl | rfl
      · exact ⟨0, rfl, by decide⟩
      · exact ⟨1, rfl, by decide⟩
    dsimp only [DL.vAsg, DL.vFor, DL.vSeqI, DL.vNeg, DL.vPar, DL.vDct, DL.vEnum, DL.vRepL, DL.vRepr, DL.rRepr, DL.vIsiT, DL.vCallK, DL.vLenS, DL.vRaiX, DL.vRai0, DL.vFld, DL.rMulA, DL.rEqO, DL.rNeO, DL.vTryAs, DL.vCallW, DL.vCallH, DL.vBorL, DL.vStar, DL.vRev, DL.rRev, DL.vZip, DL.items2, DL.seqOf, DL.vAsgO, DL.vNilO, DL.vConsO, DL.vOwnO, DL.setO, DL.rSumA, DL.vBoxI, DL.vBoxS, DL.vCells, DL.vPopOr, DL.vScr, DL.vV, DL.vC, DL.vOp, DL.isB, DL.vTest, DL.vAnd, DL.vOr, DL.vNot, DL.vAndV, DL.vOrV, DL.vNotV, DL.vIf, DL.isNon, DL.vIsN, DL.vNotN, DL.vNil, DL.vCons, DL.vTup, DL.vLst, DL.rAdd, DL.rSub, DL.rMul, DL.rInt, DL.rDiv, DL.rMod, DL.rPow, DL.rShl, DL.rLt, DL.rLe, DL.rGt, DL.rGe, DL.vChain, DL.rIx, DL.vIx, DL.vNoPart, DL.isI, DL.vPart, DL.rSl, DL.vSl, DL.vCB, DL.rLen, DL.rAbs, DL.rMax2, DL.rMin2, DL.rIntOf, DL.rListOf, DL.rTupleOf, DL.vNext, DL.vSeq, DL.vBreak, DL.vCont, DL.vNever, DL.vFrz, DL.vBor, DL.vBorT, DL.vSet, DL.vDrop, DL.vRet, DL.vRetN, DL.vIfS, DL.vNew, DL.vOwn, DL.isL, DL.isIn, DL.isOwnL, DL.vApp, DL.vSto, DL.gV, DL.gT, DL.vRng1, DL.vRng2, DL.vYes, DL.vLc, DL.vCall, DL.vAttr, DL.vIsi, DL.vMk0, DL.vMkX, endsD, endsI, startI, isInsA, putD, capS, List.getElem?_cons_zero, List.getElem?_cons_succ, List.set_cons_zero, List.set_cons_succ, frz, frz1, wipeS, setN, noOwn, DL.isNon, Bool.not_true, Bool.not_false, List.length_cons, List.length_nil, List.map, c_with_legs]
    refine ⟨rfl, bitsAt (legs - 2) (i : Int), l, o, (b : Int), rfl, by rw [bitsAt_len]; omega, rfl, p, .int legs, _, t, _, _, rfl, rfl, key b hb, ?_⟩
    rw [Int.toNat_natCast] at hI
    exact hI
  · dsimp only [DL.vAsg, DL.vFor, DL.vSeqI, DL.vNeg, DL.vPar, DL.vDct, DL.vEnum, DL.vRepL, DL.vRepr, DL.rRepr, DL.vIsiT, DL.vCallK, DL.vLenS, DL.vRaiX, DL.vRai0, DL.vFld, DL.rMulA, DL.rEqO, DL.rNeO, DL.vTryAs, DL.vCallW, DL.vCallH, DL.vBorL, DL.vStar, DL.vRev, DL.rRev, DL.vZip, DL.items2, DL.seqOf, DL.vAsgO, DL.vNilO, DL.vConsO, DL.vOwnO, DL.setO, DL.rSumA, DL.vBoxI, DL.vBoxS, DL.vCells, DL.vPopOr, DL.vScr, DL.vV, DL.vC, DL.vOp, DL.isB, DL.vTest, DL.vAnd, DL.vOr, DL.vNot, DL.vAndV, DL.vOrV, DL.vNotV, DL.vIf, DL.isNon, DL.vIsN, DL.vNotN, DL.vNil, DL.vCons, DL.vTup, DL.vLst, DL.rAdd, DL.rSub, DL.rMul, DL.rInt, DL.rDiv, DL.rMod, DL.rPow, DL.rShl, DL.rLt, DL.rLe, DL.rGt, DL.rGe, DL.vChain, DL.rIx, DL.vIx, DL.vNoPart, DL.isI, DL.vPart, DL.rSl, DL.vSl, DL.vCB, DL.rLen, DL.rAbs, DL.rMax2, DL.rMin2, DL.rIntOf, DL.rListOf, DL.rTupleOf, DL.vNext, DL.vSeq, DL.vBreak, DL.vCont, DL.vNever, DL.vFrz, DL.vBor, DL.vBorT, DL.vSet, DL.vDrop, DL.vRet, DL.vRetN, DL.vIfS, DL.vNew, DL.vOwn, DL.isL, DL.isIn, DL.isOwnL, DL.vApp, DL.vSto, DL.gV, DL.gT, DL.vRng1, DL.vRng2, DL.vYes, DL.vLc, DL.vCall, DL.vAttr, DL.vIsi, DL.vMk0, DL.vMkX, endsD, endsI, startI, isInsA, putD, capS, List.getElem?_cons_zero, List.getElem?_cons_succ, List.set_cons_zero, List.set_cons_succ, frz, frz1, wipeS, setN, noOwn, DL.isNon, Bool.not_true, Bool.not_false, List.length_cons, List.length_nil, List.map]
    refine ⟨[t.getD (cIx legs (min l o) (max l o) 0 i) 0, t.getD (cIx legs (min l o) (max l o) 1 i) 0], rfl, ?_⟩
    rw [List.sum_cons, List.sum_cons, List.sum_nil, Int.add_zero]
    exact hq'
theorem two_part {q M N b : Nat} (h1 : q < M) (h2 : N = M + M) (h3 : b < 2) : b * M + q < N := by
  have : b = 0 ∨ b = 1 := by omega
  rcases this with rfl | rfl <;> omega
/-- .. of two rules joined -/
def tabJoined (p : Int) (m n : Nat) (t1 t2 : List Int) : List Int := (List.range (2 ^ (m - 1 + (n - 1)))).map fun (i : Nat) =>
  (t1.getD (i / 2 ^ (n - 1)) 0 * t2.getD (i % 2 ^ (n - 1)) 0 + t1.getD (2 ^ (m - 1) + i / 2 ^ (n - 1)) 0 * t2.getD (2 ^ (n - 1) + i % 2 ^ (n - 1)) 0) % p
def c_joined (C : Nat → Addr) : Ctr := fun ds Q Qx => ∃ d1 d2 d3 d4, ds = [d1, d2, d3, d4] ∧ c_need_rule C [d1] (fun _ => c_need_rule C [d3] (fun _ => c_need_leg C [d1, d2, .str "leg"] (fun _ => c_need_two C [d1, d3] (fun _ => c_need_leg C [d3, d4, .str "place"] (fun _ =>
  ∃ (p : Int) (m n l o : Nat) (t1 t2 : List Int), d1 = ruleD C p (.int m) (intsL t1) ∧ d3 = ruleD C p (.int n) (intsL t2) ∧ d2 = .int l ∧ d4 = .int o ∧ Tab p m t1 ∧ Tab p n t2 ∧ l < m ∧ o < n ∧
  (8 < m + n - 2 → Qx ⟨(C 3), [("most", .int 8)]⟩) ∧ (m + n - 2 ≤ 8 → Q (ruleD C p (.int (m + n - 2 : Nat)) (intsL (tabJoined p m n (tabLed m (turnL m l) t1) (tabLed n (turnL n o) t2)))))) Qx) Qx) Qx) Qx) Qx
theorem sc_joined : FnScope ["rule", "leg", "other", "place", "first", "second", "many", "work"] ["rule", "leg", "other", "place"] (defScope s_joined) := ⟨rfl, rfl, rfl, by decide +kernel, rfl, by decide +kernel, by decide +kernel⟩
theorem ok_joined {f : Addr} {fd : FuncData} (F : L2.Fun K "joined" "joined" s_joined f fd) (M : MC Pr w K mg base C) (F_at : FD Pr w K mg base "at" 2 ["rule", "bits"] (spD (PP K C tbs) (fun _ => True) 2 (c_at C))) (F_made : FD Pr w K mg base "made" 6 ["prime", "legs", "work"] (spH Pr w K mg base (PP K C tbs) (fun _ => True) 3 5 (c_made C))) (F_need_leg : FD Pr w K mg base "need_leg" 3 ["rule", "leg", "part"] (spD (PP K C tbs) (fun _ => True) 3 (c_need_leg C))) (F_need_rule : FD Pr w K mg base "need_rule" 2 ["thing"] (spD (PP K C tbs) (fun _ => True) 1 (c_need_rule C))) (F_need_two : FD Pr w K mg base "need_two" 3 ["rule", "other"] (spD (PP K C tbs) (fun _ => True) 2 (c_need_two C))) (F_turned : FD Pr w K mg base "turned" 8 ["rule", "many"] (spD (PP K C tbs) (fun _ => True) 2 (c_turned C))) {cA : Addr} (LT : LTab base mg (PP K C tbs) cA (nm_joined)) (hfc : fd.code = .ref cA) : FnG Pr w K mg base (L2.CX Pr w) 9 f fd ["rule", "leg", "other", "place"] (spD (PP K C tbs) (fun _ => True) 4 (c_joined C)) := by
  have nd := sc_joined.nd
  have T := txt (tbs := tbs) M
  have CD := (show CloD Pr w K mg base (PP K C tbs) (fun _ => True) 4 (defScope s_joined) ["rule", "leg", "other", "place", "first", "second", "many", "work"] _ from (CloD.defn (N' := ["bits", "first", "second", "many", "bit"]) (ps := ["bits"]) (fr := ["first", "second", "many"]) (js := [4, 5, 6]) (n := 1) (m := 1) 3 rfl rfl (nscopeC_by (by decide +kernel)) (by decide +kernel) rfl (fun _ _ _ _ _ us hl => match us, hl with | [_], _ => rfl) (fun g hgp cl c' f A outer s H E hr hgd => (ss_one (s_ret (d_callB (c_sumA rfl) rfl M.b_sum (by first | rfl | decide +kernel) (a_cons (DN.de (n_lc (own := [("bit", 4)]) rfl (show List.Nodup (["bits", "first", "second", "many", "bit"] : List Str) from by decide +kernel) (i_seq (d_tup (a_cons d_int (a_cons d_int a_nil)))) (blkOk_by (by rfl)) (fun _ _ _ _ _ => (g_name 4 (show List.Nodup (["bits", "first", "second", "many", "bit"] : List Str) from by decide +kernel) (js := [4]))) (fun _ _ _ _ _ => ts_nil) (fun _ _ _ _ _ => (d_op o_mulA (d_callF F_at (hr.mono (by decide)) hgd rfl trivial (a_cons (d_var 1) (a_cons (d_lst (a_cons (d_var 4) (a_star (d_slice (d_var 0) do_none (do_some (d_var 3))) a_nil))) a_nil))) (d_callF F_at (hr.mono (by decide)) hgd rfl trivial (a_cons (d_var 2) (a_cons (d_lst (a_cons (d_var 4) (a_star (d_slice (d_var 0) (do_some (d_var 3)) do_none) a_nil))) a_nil))))))) a_nil))))) CloD.nil))
  refine fnDC (k := 8) F sc_joined (fun g hgp cdv hcd A outer s H E hr hgd cs hcs => (ss_cons (s_expr (d_callF F_need_rule (hr.mono (by decide)) hgd rfl trivial (a_cons (d_var 0) a_nil))) (ss_cons (s_expr (d_callF F_need_rule (hr.mono (by decide)) hgd rfl trivial (a_cons (d_var 2) a_nil))) (ss_cons (s_expr (d_callF F_need_leg (hr.mono (by decide)) hgd rfl trivial (a_cons (d_var 0) (a_cons (d_var 1) (a_cons d_str a_nil))))) (ss_cons (s_expr (d_callF F_need_two (hr.mono (by decide)) hgd rfl trivial (a_cons (d_var 0) (a_cons (d_var 2) a_nil)))) (ss_cons (s_expr (d_callF F_need_leg (hr.mono (by decide)) hgd rfl trivial (a_cons (d_var 2) (a_cons (d_var 3) (a_cons d_str a_nil))))) (ss_cons (s_asg (d_tup (a_cons (d_callF F_turned (hr.mono (by decide)) hgd rfl trivial (a_cons (d_var 0) (a_cons (d_var 1) a_nil))) (a_cons (d_callF F_turned (hr.mono (by decide)) hgd rfl trivial (a_cons (d_var 2) (a_cons (d_var 3) a_nil))) a_nil))) (g_two 4 5 rfl nd)) (ss_cons (s_set 6 nd (d_op o_sub (d_attr T (d_var 0)) d_int)) (ss_cons (s_ndef 3 7 hcs (LT.lam (hcd.symm.trans hfc)) nd rfl rfl (ndef_free (sc := defScope s_joined) (fr := ["first", "second", "many"]) (by decide +kernel))) (ss_one (s_ret (d_callH hcs F_made CD.frB (by decide) (hr.mono (by decide)) hgd rfl hgp (a_cons (d_attr T (d_var 0)) (a_cons (d_op o_sub (d_op o_add (d_var 6) (d_attr T (d_var 2))) d_int) (a_cons (d_var 7) a_nil))))))))))))))) ?_
  intro cs ds Qd Qx hl hc
  obtain ⟨d1, d2, d3, d4, rfl, hc⟩ := hc
  rw [show startS ["rule", "leg", "other", "place", "first", "second", "many", "work"] [d1, d2, d3, d4] = [.v d1, .v d2, .v d3, .v d4, .u, .u, .u, .u] from rfl]
  refine seq_hide fun V1 hV1 => ?_
  dsimp only [DL.vAsg, DL.vFor, DL.vSeqI, DL.vNeg, DL.vPar, DL.vDct, DL.vEnum, DL.vRepL, DL.vRepr, DL.rRepr, DL.vIsiT, DL.vCallK, DL.vLenS, DL.vRaiX, DL.vRai0, DL.vFld, DL.rMulA, DL.rEqO, DL.rNeO, DL.vTryAs, DL.vCallW, DL.vCallH, DL.vBorL, DL.vStar, DL.vRev, DL.rRev, DL.vZip, DL.items2, DL.seqOf, DL.vAsgO, DL.vNilO, DL.vConsO, DL.vOwnO, DL.setO, DL.rSumA, DL.vBoxI, DL.vBoxS, DL.vCells, DL.vPopOr, DL.vScr, DL.vV, DL.vC, DL.vOp, DL.isB, DL.vTest, DL.vAnd, DL.vOr, DL.vNot, DL.vAndV, DL.vOrV, DL.vNotV, DL.vIf, DL.isNon, DL.vIsN, DL.vNotN, DL.vNil, DL.vCons, DL.vTup, DL.vLst, DL.rAdd, DL.rSub, DL.rMul, DL.rInt, DL.rDiv, DL.rMod, DL.rPow, DL.rShl, DL.rLt, DL.rLe, DL.rGt, DL.rGe, DL.vChain, DL.rIx, DL.vIx, DL.vNoPart, DL.isI, DL.vPart, DL.rSl, DL.vSl, DL.vCB, DL.rLen, DL.rAbs, DL.rMax2, DL.rMin2, DL.rIntOf, DL.rListOf, DL.rTupleOf, DL.vNext, DL.vSeq, DL.vBreak, DL.vCont, DL.vNever, DL.vFrz, DL.vBor, DL.vBorT, DL.vSet, DL.vDrop, DL.vRet, DL.vRetN, DL.vIfS, DL.vNew, DL.vOwn, DL.isL, DL.isIn, DL.isOwnL, DL.vApp, DL.vSto, DL.gV, DL.gT, DL.vRng1, DL.vRng2, DL.vYes, DL.vLc, DL.vCall, DL.vAttr, DL.vIsi, DL.vMk0, DL.vMkX, endsD, endsI, startI, isInsA, putD, capS, List.getElem?_cons_zero, List.getElem?_cons_succ, List.set_cons_zero, List.set_cons_succ, frz, frz1, wipeS, setN, noOwn, DL.isNon, Bool.not_true, Bool.not_false, List.length_cons, List.length_nil, List.map]
  refine ⟨rfl, need_rule_mono (fun hc => ?_) hc⟩
  rw [hV1]
  clear hV1
  refine seq_hide fun V1 hV1 => ?_
  dsimp only [DL.vAsg, DL.vFor, DL.vSeqI, DL.vNeg, DL.vPar, DL.vDct, DL.vEnum, DL.vRepL, DL.vRepr, DL.rRepr, DL.vIsiT, DL.vCallK, DL.vLenS, DL.vRaiX, DL.vRai0, DL.vFld, DL.rMulA, DL.rEqO, DL.rNeO, DL.vTryAs, DL.vCallW, DL.vCallH, DL.vBorL, DL.vStar, DL.vRev, DL.rRev, DL.vZip, DL.items2, DL.seqOf, DL.vAsgO, DL.vNilO, DL.vConsO, DL.vOwnO, DL.setO, DL.rSumA, DL.vBoxI, DL.vBoxS, DL.vCells, DL.vPopOr, DL.vScr, DL.vV, DL.vC, DL.vOp, DL.isB, DL.vTest, DL.vAnd, DL.vOr, DL.vNot, DL.vAndV, DL.vOrV, DL.vNotV, DL.vIf, DL.isNon, DL.vIsN, DL.vNotN, DL.vNil, DL.vCons, DL.vTup, DL.vLst, DL.rAdd, DL.rSub, DL.rMul, DL.rInt, DL.rDiv, DL.rMod, DL.rPow, DL.rShl, DL.rLt, DL.rLe, DL.rGt, DL.rGe, DL.vChain, DL.rIx, DL.vIx, DL.vNoPart, DL.isI, DL.vPart, DL.rSl, DL.vSl, DL.vCB, DL.rLen, DL.rAbs, DL.rMax2, DL.rMin2, DL.rIntOf, DL.rListOf, DL.rTupleOf, DL.vNext, DL.vSeq, DL.vBreak, DL.vCont, DL.vNever, DL.vFrz, DL.vBor, DL.vBorT, DL.vSet, DL.vDrop, DL.vRet, DL.vRetN, DL.vIfS, DL.vNew, DL.vOwn, DL.isL, DL.isIn, DL.isOwnL, DL.vApp, DL.vSto, DL.gV, DL.gT, DL.vRng1, DL.vRng2, DL.vYes, DL.vLc, DL.vCall, DL.vAttr, DL.vIsi, DL.vMk0, DL.vMkX, endsD, endsI, startI, isInsA, putD, capS, List.getElem?_cons_zero, List.getElem?_cons_succ, List.set_cons_zero, List.set_cons_succ, frz, frz1, wipeS, setN, noOwn, DL.isNon, Bool.not_true, Bool.not_false, List.length_cons, List.length_nil, List.map]
  refine ⟨rfl, need_rule_mono (fun hc => ?_) hc⟩
  rw [hV1]
  clear hV1
  refine seq_hide fun V1 hV1 => ?_
  dsimp only [DL.vAsg, DL.vFor, DL.vSeqI, DL.vNeg, DL.vPar, DL.vDct, DL.vEnum, DL.vRepL, DL.vRepr, DL.rRepr, DL.vIsiT, DL.vCallK, DL.vLenS, DL.vRaiX, DL.vRai0, DL.vFld, DL.rMulA, DL.rEqO, DL.rNeO, DL.vTryAs, DL.vCallW, DL.vCallH, DL.vBorL, DL.vStar, DL.vRev, DL.rRev, DL.vZip, DL.items2, DL.seqOf, DL.vAsgO, DL.vNilO, DL.vConsO, DL.vOwnO, DL.setO, DL.rSumA, DL.vBoxI, DL.vBoxS, DL.vCells, DL.vPopOr, DL.vScr, DL.vV, DL.vC, DL.vOp, DL.isB, DL.vTest, DL.vAnd, DL.vOr, DL.vNot, DL.vAndV, DL.vOrV, DL.vNotV, DL.vIf, DL.isNon, DL.vIsN, DL.vNotN, DL.vNil, DL.vCons, DL.vTup, DL.vLst, DL.rAdd, DL.rSub, DL.rMul, DL.rInt, DL.rDiv, DL.rMod, DL.rPow, DL.rShl, DL.rLt, DL.rLe, DL.rGt, DL.rGe, DL.vChain, DL.rIx, DL.vIx, DL.vNoPart, DL.isI, DL.vPart, DL.rSl, DL.vSl, DL.vCB, DL.rLen, DL.rAbs, DL.rMax2, DL.rMin2, DL.rIntOf, DL.rListOf, DL.rTupleOf, DL.vNext, DL.vSeq, DL.vBreak, DL.vCont, DL.vNever, DL.vFrz, DL.vBor, DL.vBorT, DL.vSet, DL.vDrop, DL.vRet, DL.vRetN, DL.vIfS, DL.vNew, DL.vOwn, DL.isL, DL.isIn, DL.isOwnL, DL.vApp, DL.vSto, DL.gV, DL.gT, DL.vRng1, DL.vRng2, DL.vYes, DL.vLc, DL.vCall, DL.vAttr, DL.vIsi, DL.vMk0, DL.vMkX, endsD, endsI, startI, isInsA, putD, capS, List.getElem?_cons_zero, List.getElem?_cons_succ, List.set_cons_zero, List.set_cons_succ, frz, frz1, wipeS, setN, noOwn, DL.isNon, Bool.not_true, Bool.not_false, List.length_cons, List.length_nil, List.map]
  refine ⟨rfl, need_leg_mono (fun hc => ?_) hc⟩
  rw [hV1]
  clear hV1
  refine seq_hide fun V1 hV1 => ?_
  dsimp only [DL.vAsg, DL.vFor, DL.vSeqI, DL.vNeg, DL.vPar, DL.vDct, DL.vEnum, DL.vRepL, DL.vRepr, DL.rRepr, DL.vIsiT, DL.vCallK, DL.vLenS, DL.vRaiX, DL.vRai0, DL.vFld, DL.rMulA, DL.rEqO, DL.rNeO, DL.vTryAs, DL.vCallW, DL.vCallH, DL.vBorL, DL.vStar, DL.vRev, DL.rRev, DL.vZip, DL.items2, DL.seqOf, DL.vAsgO, DL.vNilO, DL.vConsO, DL.vOwnO, DL.setO, DL.rSumA, DL.vBoxI, DL.vBoxS, DL.vCells, DL.vPopOr, DL.vScr, DL.vV, DL.vC, DL.vOp, DL.isB, DL.vTest, DL.vAnd, DL.vOr, DL.vNot, DL.vAndV, DL.vOrV, DL.vNotV, DL.vIf, DL.isNon, DL.vIsN, DL.vNotN, DL.vNil, DL.vCons, DL.vTup, DL.vLst, DL.rAdd, DL.rSub, DL.rMul, DL.rInt, DL.rDiv, DL.rMod, DL.rPow, DL.rShl, DL.rLt, DL.rLe, DL.rGt, DL.rGe, DL.vChain, DL.rIx, DL.vIx, DL.vNoPart, DL.isI, DL.vPart, DL.rSl, DL.vSl, DL.vCB, DL.rLen, DL.rAbs, DL.rMax2, DL.rMin2, DL.rIntOf, DL.rListOf, DL.rTupleOf, DL.vNext, DL.vSeq, DL.vBreak, DL.vCont, DL.vNever, DL.vFrz, DL.vBor, DL.vBorT, DL.vSet, DL.vDrop, DL.vRet, DL.vRetN, DL.vIfS, DL.vNew, DL.vOwn, DL.isL, DL.isIn, DL.isOwnL, DL.vApp, DL.vSto, DL.gV, DL.gT, DL.vRng1, DL.vRng2, DL.vYes, DL.vLc, DL.vCall, DL.vAttr, DL.vIsi, DL.vMk0, DL.vMkX, endsD, endsI, startI, isInsA, putD, capS, List.getElem?_cons_zero, List.getElem?_cons_succ, List.set_cons_zero, List.set_cons_succ, frz, frz1, wipeS, setN, noOwn, DL.isNon, Bool.not_true, Bool.not_false, List.length_cons, List.length_nil, List.map]
  refine ⟨rfl, need_two_mono (fun hc => ?_) hc⟩
  rw [hV1]
  clear hV1
  refine seq_hide fun V1 hV1 => ?_
  dsimp only [DL.vAsg, DL.vFor, DL.vSeqI, DL.vNeg, DL.vPar, DL.vDct, DL.vEnum, DL.vRepL, DL.vRepr, DL.rRepr, DL.vIsiT, DL.vCallK, DL.vLenS, DL.vRaiX, DL.vRai0, DL.vFld, DL.rMulA, DL.rEqO, DL.rNeO, DL.vTryAs, DL.vCallW, DL.vCallH, DL.vBorL, DL.vStar, DL.vRev, DL.rRev, DL.vZip, DL.items2, DL.seqOf, DL.vAsgO, DL.vNilO, DL.vConsO, DL.vOwnO, DL.setO, DL.rSumA, DL.vBoxI, DL.vBoxS, DL.vCells, DL.vPopOr, DL.vScr, DL.vV, DL.vC, DL.vOp, DL.isB, DL.vTest, DL.vAnd, DL.vOr, DL.vNot, DL.vAndV, DL.vOrV, DL.vNotV, DL.vIf, DL.isNon, DL.vIsN, DL.vNotN, DL.vNil, DL.vCons, DL.vTup, DL.vLst, DL.rAdd, DL.rSub, DL.rMul, DL.rInt, DL.rDiv, DL.rMod, DL.rPow, DL.rShl, DL.rLt, DL.rLe, DL.rGt, DL.rGe, DL.vChain, DL.rIx, DL.vIx, DL.vNoPart, DL.isI, DL.vPart, DL.rSl, DL.vSl, DL.vCB, DL.rLen, DL.rAbs, DL.rMax2, DL.rMin2, DL.rIntOf, DL.rListOf, DL.rTupleOf, DL.vNext, DL.vSeq, DL.vBreak, DL.vCont, DL.vNever, DL.vFrz, DL.vBor, DL.vBorT, DL.vSet, DL.vDrop, DL.vRet, DL.vRetN, DL.vIfS, DL.vNew, DL.vOwn, DL.isL, DL.isIn, DL.isOwnL, DL.vApp, DL.vSto, DL.gV, DL.gT, DL.vRng1, DL.vRng2, DL.vYes, DL.vLc, DL.vCall, DL.vAttr, DL.vIsi, DL.vMk0, DL.vMkX, endsD, endsI, startI, isInsA, putD, capS, List.getElem?_cons_zero, List.getElem?_cons_succ, List.set_cons_zero, List.set_cons_succ, frz, frz1, wipeS, setN, noOwn, DL.isNon, Bool.not_true, Bool.not_false, List.length_cons, List.length_nil, List.map]
  refine ⟨rfl, need_leg_mono (fun hc => ?_) hc⟩
  obtain ⟨p, m, n, l, o, t1, t2, rfl, rfl, rfl, rfl, T1, T2, hlm, hon, h9, h8⟩ := hc
  rw [hV1]
  clear hV1
  have m8 := T1.l8
  have n8 := T2.l8
  refine seq_hide fun V1 hV1 => ?_
  dsimp only [DL.vAsg, DL.vFor, DL.vSeqI, DL.vNeg, DL.vPar, DL.vDct, DL.vEnum, DL.vRepL, DL.vRepr, DL.rRepr, DL.vIsiT, DL.vCallK, DL.vLenS, DL.vRaiX, DL.vRai0, DL.vFld, DL.rMulA, DL.rEqO, DL.rNeO, DL.vTryAs, DL.vCallW, DL.vCallH, DL.vBorL, DL.vStar, DL.vRev, DL.rRev, DL.vZip, DL.items2, DL.seqOf, DL.vAsgO, DL.vNilO, DL.vConsO, DL.vOwnO, DL.setO, DL.rSumA, DL.vBoxI, DL.vBoxS, DL.vCells, DL.vPopOr, DL.vScr, DL.vV, DL.vC, DL.vOp, DL.isB, DL.vTest, DL.vAnd, DL.vOr, DL.vNot, DL.vAndV, DL.vOrV, DL.vNotV, DL.vIf, DL.isNon, DL.vIsN, DL.vNotN, DL.vNil, DL.vCons, DL.vTup, DL.vLst, DL.rAdd, DL.rSub, DL.rMul, DL.rInt, DL.rDiv, DL.rMod, DL.rPow, DL.rShl, DL.rLt, DL.rLe, DL.rGt, DL.rGe, DL.vChain, DL.rIx, DL.vIx, DL.vNoPart, DL.isI, DL.vPart, DL.rSl, DL.vSl, DL.vCB, DL.rLen, DL.rAbs, DL.rMax2, DL.rMin2, DL.rIntOf, DL.rListOf, DL.rTupleOf, DL.vNext, DL.vSeq, DL.vBreak, DL.vCont, DL.vNever, DL.vFrz, DL.vBor, DL.vBorT, DL.vSet, DL.vDrop, DL.vRet, DL.vRetN, DL.vIfS, DL.vNew, DL.vOwn, DL.isL, DL.isIn, DL.isOwnL, DL.vApp, DL.vSto, DL.gV, DL.gT, DL.vRng1, DL.vRng2, DL.vYes, DL.vLc, DL.vCall, DL.vAttr, DL.vIsi, DL.vMk0, DL.vMkX, endsD, endsI, startI, isInsA, putD, capS, List.getElem?_cons_zero, List.getElem?_cons_succ, List.set_cons_zero, List.set_cons_succ, frz, frz1, wipeS, setN, noOwn, DL.isNon, Bool.not_true, Bool.not_false, List.length_cons, List.length_nil, List.map]
  refine ⟨rfl, turned_ok T1 (by omega) ⟨rfl, turned_ok T2 (by omega) ?_⟩⟩
  have T3 : Tab p m (tabLed m (turnL m l) t1) := tab_led T1
  have T4 : Tab p n (tabLed n (turnL n o) t2) := tab_led T2
  generalize tabLed m (turnL m l) t1 = t3 at T3 h8 ⊢
  generalize tabLed n (turnL n o) t2 = t4 at T4 h8 ⊢
  refine ⟨by decide, rfl, ?_⟩
  rw [hV1]
  clear hV1
  refine seq_hide fun V1 hV1 => ?_
  dsimp only [DL.vAsg, DL.vFor, DL.vSeqI, DL.vNeg, DL.vPar, DL.vDct, DL.vEnum, DL.vRepL, DL.vRepr, DL.rRepr, DL.vIsiT, DL.vCallK, DL.vLenS, DL.vRaiX, DL.vRai0, DL.vFld, DL.rMulA, DL.rEqO, DL.rNeO, DL.vTryAs, DL.vCallW, DL.vCallH, DL.vBorL, DL.vStar, DL.vRev, DL.rRev, DL.vZip, DL.items2, DL.seqOf, DL.vAsgO, DL.vNilO, DL.vConsO, DL.vOwnO, DL.setO, DL.rSumA, DL.vBoxI, DL.vBoxS, DL.vCells, DL.vPopOr, DL.vScr, DL.vV, DL.vC, DL.vOp, DL.isB, DL.vTest, DL.vAnd, DL.vOr, DL.vNot, DL.vAndV, DL.vOrV, DL.vNotV, DL.vIf, DL.isNon, DL.vIsN, DL.vNotN, DL.vNil, DL.vCons, DL.vTup, DL.vLst, DL.rAdd, DL.rSub, DL.rMul, DL.rInt, DL.rDiv, DL.rMod, DL.rPow, DL.rShl, DL.rLt, DL.rLe, DL.rGt, DL.rGe, DL.vChain, DL.rIx, DL.vIx, DL.vNoPart, DL.isI, DL.vPart, DL.rSl, DL.vSl, DL.vCB, DL.rLen, DL.rAbs, DL.rMax2, DL.rMin2, DL.rIntOf, DL.rListOf, DL.rTupleOf, DL.vNext, DL.vSeq, DL.vBreak, DL.vCont, DL.vNever, DL.vFrz, DL.vBor, DL.vBorT, DL.vSet, DL.vDrop, DL.vRet, DL.vRetN, DL.vIfS, DL.vNew, DL.vOwn, DL.isL, DL.isIn, DL.isOwnL, DL.vApp, DL.vSto, DL.gV, DL.gT, DL.vRng1, DL.vRng2, DL.vYes, DL.vLc, DL.vCall, DL.vAttr, DL.vIsi, DL.vMk0, DL.vMkX, endsD, endsI, startI, isInsA, putD, capS, List.getElem?_cons_zero, List.getElem?_cons_succ, List.set_cons_zero, List.set_cons_succ, frz, frz1, wipeS, setN, noOwn, DL.isNon, Bool.not_true, Bool.not_false, List.length_cons, List.length_nil, List.map, ruleD]
  refine ⟨rfl, M.a_Rule_legs, some2 (by decide) (some1 ?_)⟩
  rw [hV1]
  clear hV1
  refine seq_hide fun V1 hV1 => ?_
  dsimp only [DL.vAsg, DL.vFor, DL.vSeqI, DL.vNeg, DL.vPar, DL.vDct, DL.vEnum, DL.vRepL, DL.vRepr, DL.rRepr, DL.vIsiT, DL.vCallK, DL.vLenS, DL.vRaiX, DL.vRai0, DL.vFld, DL.rMulA, DL.rEqO, DL.rNeO, DL.vTryAs, DL.vCallW, DL.vCallH, DL.vBorL, DL.vStar, DL.vRev, DL.rRev, DL.vZip, DL.items2, DL.seqOf, DL.vAsgO, DL.vNilO, DL.vConsO, DL.vOwnO, DL.setO, DL.rSumA, DL.vBoxI, DL.vBoxS, DL.vCells, DL.vPopOr, DL.vScr, DL.vV, DL.vC, DL.vOp, DL.isB, DL.vTest, DL.vAnd, DL.vOr, DL.vNot, DL.vAndV, DL.vOrV, DL.vNotV, DL.vIf, DL.isNon, DL.vIsN, DL.vNotN, DL.vNil, DL.vCons, DL.vTup, DL.vLst, DL.rAdd, DL.rSub, DL.rMul, DL.rInt, DL.rDiv, DL.rMod, DL.rPow, DL.rShl, DL.rLt, DL.rLe, DL.rGt, DL.rGe, DL.vChain, DL.rIx, DL.vIx, DL.vNoPart, DL.isI, DL.vPart, DL.rSl, DL.vSl, DL.vCB, DL.rLen, DL.rAbs, DL.rMax2, DL.rMin2, DL.rIntOf, DL.rListOf, DL.rTupleOf, DL.vNext, DL.vSeq, DL.vBreak, DL.vCont, DL.vNever, DL.vFrz, DL.vBor, DL.vBorT, DL.vSet, DL.vDrop, DL.vRet, DL.vRetN, DL.vIfS, DL.vNew, DL.vOwn, DL.isL, DL.isIn, DL.isOwnL, DL.vApp, DL.vSto, DL.gV, DL.gT, DL.vRng1, DL.vRng2, DL.vYes, DL.vLc, DL.vCall, DL.vAttr, DL.vIsi, DL.vMk0, DL.vMkX, endsD, endsI, startI, isInsA, putD, capS, List.getElem?_cons_zero, List.getElem?_cons_succ, List.set_cons_zero, List.set_cons_succ, frz, frz1, wipeS, setN, noOwn, DL.isNon, Bool.not_true, Bool.not_false, List.length_cons, List.length_nil, List.map]
  rw [hV1]
  clear hV1
  dsimp only [DL.vAsg, DL.vFor, DL.vSeqI, DL.vNeg, DL.vPar, DL.vDct, DL.vEnum, DL.vRepL, DL.vRepr, DL.rRepr, DL.vIsiT, DL.vCallK, DL.vLenS, DL.vRaiX, DL.vRai0, DL.vFld, DL.rMulA, DL.rEqO, DL.rNeO, DL.vTryAs, DL.vCallW, DL.vCallH, DL.vBorL, DL.vStar, DL.vRev, DL.rRev, DL.vZip, DL.items2, DL.seqOf, DL.vAsgO, DL.vNilO, DL.vConsO, DL.vOwnO, DL.setO, DL.rSumA, DL.vBoxI, DL.vBoxS, DL.vCells, DL.vPopOr, DL.vScr, DL.vV, DL.vC, DL.vOp, DL.isB, DL.vTest, DL.vAnd, DL.vOr, DL.vNot, DL.vAndV, DL.vOrV, DL.vNotV, DL.vIf, DL.isNon, DL.vIsN, DL.vNotN, DL.vNil, DL.vCons, DL.vTup, DL.vLst, DL.rAdd, DL.rSub, DL.rMul, DL.rInt, DL.rDiv, DL.rMod, DL.rPow, DL.rShl, DL.rLt, DL.rLe, DL.rGt, DL.rGe, DL.vChain, DL.rIx, DL.vIx, DL.vNoPart, DL.isI, DL.vPart, DL.rSl, DL.vSl, DL.vCB, DL.rLen, DL.rAbs, DL.rMax2, DL.rMin2, DL.rIntOf, DL.rListOf, DL.rTupleOf, DL.vNext, DL.vSeq, DL.vBreak, DL.vCont, DL.vNever, DL.vFrz, DL.vBor, DL.vBorT, DL.vSet, DL.vDrop, DL.vRet, DL.vRetN, DL.vIfS, DL.vNew, DL.vOwn, DL.isL, DL.isIn, DL.isOwnL, DL.vApp, DL.vSto, DL.gV, DL.gT, DL.vRng1, DL.vRng2, DL.vYes, DL.vLc, DL.vCall, DL.vAttr, DL.vIsi, DL.vMk0, DL.vMkX, endsD, endsI, startI, isInsA, putD, capS, List.getElem?_cons_zero, List.getElem?_cons_succ, List.set_cons_zero, List.set_cons_succ, frz, frz1, wipeS, setN, noOwn, DL.isNon, Bool.not_true, Bool.not_false, List.length_cons, List.length_nil, List.map, c_made]
  refine ⟨rfl, M.a_Rule_prime, some1 ⟨rfl, M.a_Rule_legs, some2 (by decide) (some1 ⟨rfl, p, m + n - 2, .clo 3 cs, fun i => t3.getD (i / 2 ^ (n - 1)) 0 * t4.getD (i % 2 ^ (n - 1)) 0 + t3.getD (2 ^ (m - 1) + i / 2 ^ (n - 1)) 0 * t4.getD (2 ^ (n - 1) + i % 2 ^ (n - 1)) 0, by rw [show ((m + n - 2 : Nat) : Int) = (m : Int) - 1 + (n : Int) - 1 by omega], rfl, T1.prime, h9, fun h => ⟨fun i hi Q' hq' => ap_clo rfl ⟨rfl, ?_⟩, ?_⟩⟩)⟩⟩
  rotate_left
  · have h8 := h8 h
    unfold tabJoined at h8
    rw [show m - 1 + (n - 1) = m + n - 2 by omega] at h8
    exact h8
  dsimp only [DL.vAsg, DL.vFor, DL.vSeqI, DL.vNeg, DL.vPar, DL.vDct, DL.vEnum, DL.vRepL, DL.vRepr, DL.rRepr, DL.vIsiT, DL.vCallK, DL.vLenS, DL.vRaiX, DL.vRai0, DL.vFld, DL.rMulA, DL.rEqO, DL.rNeO, DL.vTryAs, DL.vCallW, DL.vCallH, DL.vBorL, DL.vStar, DL.vRev, DL.rRev, DL.vZip, DL.items2, DL.seqOf, DL.vAsgO, DL.vNilO, DL.vConsO, DL.vOwnO, DL.setO, DL.rSumA, DL.vBoxI, DL.vBoxS, DL.vCells, DL.vPopOr, DL.vScr, DL.vV, DL.vC, DL.vOp, DL.isB, DL.vTest, DL.vAnd, DL.vOr, DL.vNot, DL.vAndV, DL.vOrV, DL.vNotV, DL.vIf, DL.isNon, DL.vIsN, DL.vNotN, DL.vNil, DL.vCons, DL.vTup, DL.vLst, DL.rAdd, DL.rSub, DL.rMul, DL.rInt, DL.rDiv, DL.rMod, DL.rPow, DL.rShl, DL.rLt, DL.rLe, DL.rGt, DL.rGe, DL.vChain, DL.rIx, DL.vIx, DL.vNoPart, DL.isI, DL.vPart, DL.rSl, DL.vSl, DL.vCB, DL.rLen, DL.rAbs, DL.rMax2, DL.rMin2, DL.rIntOf, DL.rListOf, DL.rTupleOf, DL.vNext, DL.vSeq, DL.vBreak, DL.vCont, DL.vNever, DL.vFrz, DL.vBor, DL.vBorT, DL.vSet, DL.vDrop, DL.vRet, DL.vRetN, DL.vIfS, DL.vNew, DL.vOwn, DL.isL, DL.isIn, DL.isOwnL, DL.vApp, DL.vSto, DL.gV, DL.gT, DL.vRng1, DL.vRng2, DL.vYes, DL.vLc, DL.vCall, DL.vAttr, DL.vIsi, DL.vMk0, DL.vMkX, endsD, endsI, startI, isInsA, putD, capS, List.getElem?_cons_zero, List.getElem?_cons_succ, List.set_cons_zero, List.set_cons_succ, frz, frz1, wipeS, setN, noOwn, DL.isNon, Bool.not_true, Bool.not_false, List.length_cons, List.length_nil, List.map, CloT.start, List.map, capS, List.getElem?_cons_zero, List.getElem?_cons_succ, List.cons_append, List.nil_append, List.replicate]
  have em : (m : Int) - 1 = ((m - 1 : Nat) : Int) := by omega
  have hi' : i < 2 ^ (m - 1 + (n - 1)) := by rw [show m - 1 + (n - 1) = m + n - 2 by omega]; exact hi
  have eb : bitsAt (m + n - 2) (i : Int) = bitsAt (m - 1 + (n - 1)) (i : Int) := by rw [show m - 1 + (n - 1) = m + n - 2 by omega]
  have q1 := pow_split hi'
  have q2 : i % 2 ^ (n - 1) < 2 ^ (n - 1) := Nat.mod_lt _ (Nat.two_pow_pos _)
  have pm : 2 ^ m = 2 ^ (m - 1) + 2 ^ (m - 1) := by rw [← Nat.mul_two, ← Nat.pow_succ, show (m - 1).succ = m by omega]
  have pn : 2 ^ n = 2 ^ (n - 1) + 2 ^ (n - 1) := by rw [← Nat.mul_two, ← Nat.pow_succ, show (n - 1).succ = n by omega]
  have k1 : ∀ b : Nat, b < 2 → L2.atI t3 (indexOf ((b : Int) :: bitsAt (m - 1) ((i / 2 ^ (n - 1) : Nat) : Int))) = some (t3.getD (b * 2 ^ (m - 1) + i / 2 ^ (n - 1)) 0) ∧ 0 ≤ t3.getD (b * 2 ^ (m - 1) + i / 2 ^ (n - 1)) 0 ∧ t3.getD (b * 2 ^ (m - 1) + i / 2 ^ (n - 1)) 0 < p := fun b hb => by
    have hk : b * 2 ^ (m - 1) + i / 2 ^ (n - 1) < 2 ^ m := two_part q1 pm hb
    rw [index_cons, index_bits, bitsAt_len, Nat.mod_eq_of_lt q1]
    exact ⟨tab_nat T3 hk, tab_in T3 hk⟩
  have k2 : ∀ b : Nat, b < 2 → L2.atI t4 (indexOf ((b : Int) :: bitsAt (n - 1) (i : Int))) = some (t4.getD (b * 2 ^ (n - 1) + i % 2 ^ (n - 1)) 0) := fun b hb => by
    have hk : b * 2 ^ (n - 1) + i % 2 ^ (n - 1) < 2 ^ n := two_part q2 pn hb
    rw [index_cons, index_bits, bitsAt_len]
    exact tab_nat T4 hk
  have pp := prime_in T1.prime
  refine ⟨⟨trivial, trivial⟩, by decide, by decide, lc_ints [0, 1] (fun b => .int (t3.getD (b.toNat * 2 ^ (m - 1) + i / 2 ^ (n - 1)) 0 * t4.getD (b.toNat * 2 ^ (n - 1) + i % 2 ^ (n - 1)) 0)) rfl (fun j x hx acc I hI => ?_) ?_⟩
  · obtain ⟨b, rfl, hb⟩ : ∃ b : Nat, x = b ∧ b < 2 := by
      have := List.mem_of_getElem? hx
      simp only [List.mem_cons, List.not_mem_nil, or_false] at this
      rcases this with rfl | rfl
      · exact ⟨0, rfl, by decide⟩
      · exact ⟨1, rfl, by decide⟩
    rw [eb, em, cut_to, cut_from, bitsAt_take, bitsAt_drop, List.append_nil, List.append_nil]
    have l1 : ∀ {k : Nat} {x : Int}, (intsL (bitsAt k x)).length = k := fun {k x} => by rw [intsL_len, bitsAt_len]
    refine ⟨by rw [l1]; omega, rfl, p, .int m, _, t3, (b : Int) :: bitsAt (m - 1) ((i / 2 ^ (n - 1) : Nat) : Int), _, rfl, rfl, (k1 b hb).1, by rw [l1]; omega, rfl, p, .int n, _, t4, (b : Int) :: bitsAt (n - 1) (i : Int), _, rfl, rfl, k2 b hb, .inl ⟨?_, ?_⟩, ?_⟩
    · have := (k1 b hb).2; omega
    · have := (k1 b hb).2; omega
    · rw [Int.toNat_natCast] at hI
      exact hI
  · dsimp only [DL.vAsg, DL.vFor, DL.vSeqI, DL.vNeg, DL.vPar, DL.vDct, DL.vEnum, DL.vRepL, DL.vRepr, DL.rRepr, DL.vIsiT, DL.vCallK, DL.vLenS, DL.vRaiX, DL.vRai0, DL.vFld, DL.rMulA, DL.rEqO, DL.rNeO, DL.vTryAs, DL.vCallW, DL.vCallH, DL.vBorL, DL.vStar, DL.vRev, DL.rRev, DL.vZip, DL.items2, DL.seqOf, DL.vAsgO, DL.vNilO, DL.vConsO, DL.vOwnO, DL.setO, DL.rSumA, DL.vBoxI, DL.vBoxS, DL.vCells, DL.vPopOr, DL.vScr, DL.vV, DL.vC, DL.vOp, DL.isB, DL.vTest, DL.vAnd, DL.vOr, DL.vNot, DL.vAndV, DL.vOrV, DL.vNotV, DL.vIf, DL.isNon, DL.vIsN, DL.vNotN, DL.vNil, DL.vCons, DL.vTup, DL.vLst, DL.rAdd, DL.rSub, DL.rMul, DL.rInt, DL.rDiv, DL.rMod, DL.rPow, DL.rShl, DL.rLt, DL.rLe, DL.rGt, DL.rGe, DL.vChain, DL.rIx, DL.vIx, DL.vNoPart, DL.isI, DL.vPart, DL.rSl, DL.vSl, DL.vCB, DL.rLen, DL.rAbs, DL.rMax2, DL.rMin2, DL.rIntOf, DL.rListOf, DL.rTupleOf, DL.vNext, DL.vSeq, DL.vBreak, DL.vCont, DL.vNever, DL.vFrz, DL.vBor, DL.vBorT, DL.vSet, DL.vDrop, DL.vRet, DL.vRetN, DL.vIfS, DL.vNew, DL.vOwn, DL.isL, DL.isIn, DL.isOwnL, DL.vApp, DL.vSto, DL.gV, DL.gT, DL.vRng1, DL.vRng2, DL.vYes, DL.vLc, DL.vCall, DL.vAttr, DL.vIsi, DL.vMk0, DL.vMkX, endsD, endsI, startI, isInsA, putD, capS, List.getElem?_cons_zero, List.getElem?_cons_succ, List.set_cons_zero, List.set_cons_succ, frz, frz1, wipeS, setN, noOwn, DL.isNon, Bool.not_true, Bool.not_false, List.length_cons, List.length_nil, List.map]
    refine ⟨[t3.getD (i / 2 ^ (n - 1)) 0 * t4.getD (i % 2 ^ (n - 1)) 0, t3.getD (2 ^ (m - 1) + i / 2 ^ (n - 1)) 0 * t4.getD (2 ^ (n - 1) + i % 2 ^ (n - 1)) 0], ?_, ?_⟩
    · simp only [List.map, show (0 : Int).toNat = 0 from rfl, show (1 : Int).toNat = 1 from rfl, Nat.zero_mul, Nat.zero_add, Nat.one_mul]
    · rw [List.sum_cons, List.sum_cons, List.sum_nil, Int.add_zero]
      exact hq'

end K03

set_option maxRecDepth 100000
set_option maxHeartbeats 8000000
namespace K03
open PySem PySem.Spec PyProof.Rows L2 LamX NdefX DLX DL
variable {Pr : Program} {w : World} {K : PySem.W.Frag} {mg : Str → Option Value} {base : Heap} {P : Gl0}
variable {C tbs : Nat → Addr}
/-! ### where the law finds the worths, up to four legs -/
set_option synthInstance.maxSize 5000
set_option synthInstance.maxHeartbeats 1000000
def bitN (n k i : Nat) : Nat := ((bitsAt n (k : Int)).getD i 0).toNat
def dIx (many lo hi k : Nat) : Nat := (indexOf ((bitsAt many (k : Int)).take lo ++ ((bitsAt many (k : Int)).drop (lo + 1)).take (hi - (lo + 1)) ++ (bitsAt many (k : Int)).drop (hi + 1))).toNat
theorem closed_of : ∀ many : Nat, many < 5 → ∀ hi : Nat, hi < many → ∀ lo : Nat, lo < hi → ∀ i : Nat, i < 2 ^ (many - 2) → ∀ b : Nat, b < 2 → cIx many lo hi b i < 2 ^ many ∧ bitN many (cIx many lo hi b i) lo = b ∧ bitN many (cIx many lo hi b i) hi = b ∧ dIx many lo hi (cIx many lo hi b i) = i := by decide +kernel
theorem closed_to : ∀ many : Nat, many < 5 → ∀ hi : Nat, hi < many → ∀ lo : Nat, lo < hi → ∀ k : Nat, k < 2 ^ many → bitN many k lo = bitN many k hi → dIx many lo hi k < 2 ^ (many - 2) ∧ cIx many lo hi (bitN many k lo) (dIx many lo hi k) = k := by decide +kernel
def uIx (m l b q : Nat) : Nat := (sig m (turnL m l) (b * 2 ^ (m - 1) + q)).toNat
def aIx (m l k : Nat) : Nat := (indexOf ((bitsAt m (k : Int)).drop (l + 1) ++ (bitsAt m (k : Int)).take l)).toNat
theorem joined_of : ∀ m : Nat, m < 5 → ∀ l : Nat, l < m → ∀ q : Nat, q < 2 ^ (m - 1) → ∀ b : Nat, b < 2 → uIx m l b q < 2 ^ m ∧ bitN m (uIx m l b q) l = b ∧ aIx m l (uIx m l b q) = q := by decide +kernel
theorem joined_to : ∀ m : Nat, m < 5 → ∀ l : Nat, l < m → ∀ k : Nat, k < 2 ^ m → aIx m l k < 2 ^ (m - 1) ∧ uIx m l (bitN m k l) (aIx m l k) = k := by decide +kernel
theorem turned_by : ∀ m : Nat, m < 5 → ∀ l : Nat, l < m → ∀ q : Nat, q < 2 ^ (m - 1) → ∀ b : Nat, b < 2 → (sig m (turnL m ((l + 1) % m : Nat)) (q * 2 + b)).toNat = uIx m l b q := by decide +kernel
theorem beside_ix : ∀ m : Nat, m < 5 → 0 < m → ∀ n : Nat, n < 5 → 0 < n → ∀ i : Nat, i < 2 ^ (m - 1 + (n - 1)) → ∀ b : Nat, b < 2 → cIx (m + n) (m - 1) m b i = (i / 2 ^ (n - 1) * 2 + b) * 2 ^ n + (b * 2 ^ (n - 1) + i % 2 ^ (n - 1)) := by decide +kernel
theorem bitN_lt {n k i : Nat} : bitN n k i < 2 := by
  unfold bitN
  rw [List.getD_eq_getElem?_getD]
  cases e : (bitsAt n (k : Int))[i]? with
  | none => decide
  | some x =>
    have := bits01 (List.mem_of_getElem? e)
    show x.toNat < 2
    omega
theorem bitN_at {n k i : Nat} (h : i < n) : L2.atI (intsL (bitsAt n (k : Int))) (i : Int) = some (.int (bitN n k i : Nat)) := by
  have h1 := atI_getD (ns := bitsAt n (k : Int)) (i := (i : Int)) (by omega) (by rw [bitsAt_len]; omega)
  rw [Int.toNat_natCast] at h1
  have h2 := bits01 (getD_mem (ns := bitsAt n (k : Int)) (i := (i : Int)) (by omega) (by rw [bitsAt_len]; omega))
  rw [Int.toNat_natCast] at h2
  rw [atI_ints h1]
  unfold bitN
  rw [Int.toNat_of_nonneg h2.1]
theorem led_get {legs x : Nat} {ls ns : List Int} (h : x < 2 ^ legs) : (tabLed legs ls ns).getD x 0 = ns.getD (sig legs ls x).toNat 0 := by
  unfold tabLed
  rw [List.getD_eq_getElem?_getD, List.getElem?_map, List.getElem?_range h]
  rfl
/-! ### .. gathered -/
def hClosed (many lo hi t : Nat) : Option (Nat × Nat) := if bitN many t lo = bitN many t hi then some (bitN many t lo, dIx many lo hi t) else none
theorem acc_closed {many lo hi : Nat} (h5 : many < 5) (hh : hi < many) (hl : lo < hi) : Acc (2 ^ (many - 2)) (2 ^ many) (cIx many lo hi) (hClosed many lo hi) where
  lt := fun b r hb hr => (closed_of many h5 hi hh lo hl r hr b hb).1
  to := fun t b r ht e => by
    unfold hClosed at e
    by_cases q : bitN many t lo = bitN many t hi
    · rw [if_pos q] at e
      cases e
      have := closed_to many h5 hi hh lo hl t ht q
      exact ⟨bitN_lt, this.1, this.2⟩
    · rw [if_neg q] at e
      cases e
  of := fun b r hb hr => by
    obtain ⟨_, h1, h2, h3⟩ := closed_of many h5 hi hh lo hl r hr b hb
    unfold hClosed
    rw [h1, h2, h3, if_pos rfl]
theorem due_closed {many lo hi : Nat} {p : Int} {t : List Int} (h5 : many < 5) (hh : hi < many) (hl : lo < hi) : accD (2 ^ (many - 2)) (cIx many lo hi) (fun k => t.getD k 0) p (2 ^ many) = tabClosed p many lo hi t := acc_end (acc_closed h5 hh hl)
/-- of two rules: the place of (k, j) is k * 2 ^ n + j -/
def gJoined (m n l o b r : Nat) : Nat := uIx m l b (r / 2 ^ (n - 1)) * 2 ^ n + uIx n o b (r % 2 ^ (n - 1))
def hJoined (m n l o t : Nat) : Option (Nat × Nat) := if bitN m (t / 2 ^ n) l = bitN n (t % 2 ^ n) o then some (bitN m (t / 2 ^ n) l, aIx m l (t / 2 ^ n) * 2 ^ (n - 1) + aIx n o (t % 2 ^ n)) else none
theorem dm_of {N a b : Nat} (h : b < N) : (a * N + b) / N = a ∧ (a * N + b) % N = b := by
  constructor
  · rw [Nat.mul_comm, Nat.mul_add_div (by omega), Nat.div_eq_of_lt h, Nat.add_zero]
  · rw [Nat.mul_comm, Nat.mul_add_mod, Nat.mod_eq_of_lt h]
theorem two_lt {a b M N : Nat} (h1 : a < M) (h2 : b < N) : a * N + b < M * N :=
  Nat.lt_of_lt_of_le (Nat.add_lt_add_left h2 _) (by rw [← Nat.succ_mul]; exact Nat.mul_le_mul_right _ h1)
theorem acc_joined {m n l o : Nat} (m5 : m < 5) (n5 : n < 5) (hl : l < m) (ho : o < n) : Acc (2 ^ (m - 1 + (n - 1))) (2 ^ (m + n)) (gJoined m n l o) (hJoined m n l o) where
  lt := fun b r hb hr => by
    have h1 := (joined_of m m5 l hl _ (pow_split hr) b hb).1
    have h2 := (joined_of n n5 o ho _ (Nat.mod_lt r (Nat.two_pow_pos (n - 1))) b hb).1
    rw [Nat.pow_add]
    exact two_lt h1 h2
  to := fun t b r ht e => by
    unfold hJoined at e
    by_cases q : bitN m (t / 2 ^ n) l = bitN n (t % 2 ^ n) o
    · rw [if_pos q] at e
      cases e
      have h1 := joined_to m m5 l hl _ (pow_split ht)
      have h2 := joined_to n n5 o ho _ (Nat.mod_lt t (Nat.two_pow_pos n))
      obtain ⟨e1, e2⟩ := dm_of (a := aIx m l (t / 2 ^ n)) h2.1
      refine ⟨bitN_lt, ?_, ?_⟩
      · rw [Nat.pow_add]
        exact two_lt h1.1 h2.1
      · unfold gJoined
        rw [e1, e2, h1.2, q, h2.2, Nat.mul_comm]
        exact Nat.div_add_mod _ _
    · rw [if_neg q] at e
      cases e
  of := fun b r hb hr => by
    have h1 := joined_of m m5 l hl _ (pow_split hr) b hb
    have h2 := joined_of n n5 o ho _ (Nat.mod_lt r (Nat.two_pow_pos (n - 1))) b hb
    obtain ⟨e1, e2⟩ := dm_of (a := uIx m l b (r / 2 ^ (n - 1))) h2.1
    unfold hJoined gJoined
    rw [e1, e2, h1.2.1, h2.2.1, if_pos rfl, h1.2.2, h2.2.2, Nat.mul_comm (r / 2 ^ (n - 1))]
    rw [Nat.div_add_mod]
def vJoined (n : Nat) (t1 t2 : List Int) (t : Nat) : Int := t1.getD (t / 2 ^ n) 0 * t2.getD (t % 2 ^ n) 0
theorem due_joined {m n l o : Nat} {p : Int} {t1 t2 : List Int} (m5 : m < 5) (n5 : n < 5) (hl : l < m) (ho : o < n) : accD (2 ^ (m - 1 + (n - 1))) (gJoined m n l o) (vJoined n t1 t2) p (2 ^ (m + n)) = tabJoined p m n (tabLed m (turnL m l) t1) (tabLed n (turnL n o) t2) := by
  rw [acc_end (acc_joined m5 n5 hl ho)]
  unfold tabJoined
  refine List.map_congr_left fun i hi => ?_
  have hi := List.mem_range.mp hi
  have q1 := pow_split hi
  have q2 : i % 2 ^ (n - 1) < 2 ^ (n - 1) := Nat.mod_lt _ (Nat.two_pow_pos _)
  have pm : 2 ^ m = 2 ^ (m - 1) + 2 ^ (m - 1) := by rw [← Nat.mul_two, ← Nat.pow_succ, show (m - 1).succ = m by omega]
  have pn : 2 ^ n = 2 ^ (n - 1) + 2 ^ (n - 1) := by rw [← Nat.mul_two, ← Nat.pow_succ, show (n - 1).succ = n by omega]
  have key : ∀ b, b < 2 → vJoined n t1 t2 (gJoined m n l o b i) = (tabLed m (turnL m l) t1).getD (b * 2 ^ (m - 1) + i / 2 ^ (n - 1)) 0 * (tabLed n (turnL n o) t2).getD (b * 2 ^ (n - 1) + i % 2 ^ (n - 1)) 0 := fun b hb => by
    rw [led_get (two_part q1 pm hb), led_get (two_part q2 pn hb)]
    obtain ⟨e1, e2⟩ := dm_of (a := uIx m l b (i / 2 ^ (n - 1))) (joined_of n n5 o ho _ q2 b hb).1
    unfold vJoined gJoined
    rw [e1, e2]
    rfl
  have k0 := key 0 (by decide)
  have k1 := key 1 (by decide)
  rw [Nat.zero_mul, Nat.zero_mul, Nat.zero_add, Nat.zero_add] at k0
  rw [Nat.one_mul, Nat.one_mul] at k1
  rw [k0, k1]
/-- joined is beside, closed -/
theorem joined_beside {m n l o : Nat} {p : Int} {t1 t2 : List Int} (m5 : m < 5) (n5 : n < 5) (hl : l < m) (ho : o < n) : tabClosed p (m + n) (m - 1) m (tabBeside p m n (tabLed m (turnL m ((l + 1) % m : Nat)) t1) (tabLed n (turnL n o) t2)) = tabJoined p m n (tabLed m (turnL m l) t1) (tabLed n (turnL n o) t2) := by
  unfold tabClosed tabJoined
  rw [show m + n - 2 = m - 1 + (n - 1) by omega]
  refine List.map_congr_left fun i hi => ?_
  have hi := List.mem_range.mp hi
  have q1 := pow_split hi
  have q2 : i % 2 ^ (n - 1) < 2 ^ (n - 1) := Nat.mod_lt _ (Nat.two_pow_pos _)
  have pm : 2 ^ m = 2 ^ (m - 1) + 2 ^ (m - 1) := by rw [← Nat.mul_two, ← Nat.pow_succ, show (m - 1).succ = m by omega]
  have pn : 2 ^ n = 2 ^ (n - 1) + 2 ^ (n - 1) := by rw [← Nat.mul_two, ← Nat.pow_succ, show (n - 1).succ = n by omega]
  have key : ∀ b, b < 2 → (tabBeside p m n (tabLed m (turnL m ((l + 1) % m : Nat)) t1) (tabLed n (turnL n o) t2)).getD (cIx (m + n) (m - 1) m b i) 0 = (tabLed m (turnL m l) t1).getD (b * 2 ^ (m - 1) + i / 2 ^ (n - 1)) 0 * (tabLed n (turnL n o) t2).getD (b * 2 ^ (n - 1) + i % 2 ^ (n - 1)) 0 % p := fun b hb => by
    have hA : i / 2 ^ (n - 1) * 2 + b < 2 ^ m := by omega
    have hB := two_part q2 pn hb
    obtain ⟨e1, e2⟩ := dm_of (a := i / 2 ^ (n - 1) * 2 + b) hB
    rw [beside_ix m m5 (by omega) n n5 (by omega) i hi b hb]
    unfold tabBeside
    rw [List.getD_eq_getElem?_getD, List.getElem?_map, List.getElem?_range (by rw [Nat.pow_add]; exact two_lt hA hB)]
    show _ * _ % p = _
    rw [e1, e2, led_get hA, led_get (two_part q1 pm hb), turned_by m m5 l hl _ q1 b hb]
    rfl
  have k0 := key 0 (by decide)
  have k1 := key 1 (by decide)
  rw [Nat.zero_mul, Nat.zero_mul, Nat.zero_add, Nat.zero_add] at k0
  rw [Nat.one_mul, Nat.one_mul] at k1
  rw [k0, k1]
  exact (Int.add_emod _ _ _).symm

end K03

set_option maxRecDepth 100000
set_option maxHeartbeats 8000000
namespace K03
open PySem PySem.Spec PyProof.Rows L2 LamX NdefX DLX DL
variable {Pr : Program} {w : World} {K : PySem.W.Frag} {mg : Str → Option Value} {base : Heap} {P : Gl0}
variable {C tbs : Nat → Addr}
/-! ### the deeds at rules, and refusals -/
section
variable {p p' : Int} {m n l o : Nat} {legs' : D} {t1 t2 : List Int} {d d' : D} {Q : D → Prop} {Qx : Err → Prop}
theorem isR : isIns (C 4) (ruleD C p legs' (intsL t1)) = some true := if_pos rfl
theorem nr_no (h : isIns (C 4) d = some false) (hx : Qx ⟨(C 2), [("part", .non)]⟩) : c_need_rule C [d] Q Qx := ⟨d, false, rfl, h, (fun z => by cases z), fun _ => hx⟩
theorem nr_yes (q : Q .non) : c_need_rule C [ruleD C p legs' (intsL t1)] Q Qx := ⟨_, true, rfl, isR, (fun _ => q), (fun z => by cases z)⟩
theorem nl_no {s : String} {part : Str} (hm : tyS d = some s) (hb : isBetw d 0 ((m : Int) - 1) = false) (hx : Qx ⟨(C 1), [("part", .str part)]⟩) : c_need_leg C [ruleD C p (.int m) (intsL t1), d, .str part] Q Qx :=
  ⟨p, m, d, t1, s, part, rfl, hm, (fun z => by rw [hb] at z; cases z), fun _ => hx⟩
theorem betw_leg (h : l < m) : isBetw (.int l) 0 ((m : Int) - 1) = true := by
  show (decide ((0 : Int) ≤ l) && decide ((l : Int) ≤ (m : Int) - 1)) = true
  rw [decide_eq_true (by omega), decide_eq_true (by omega)]
  rfl
theorem betw_no {i : Int} {lo hi : Int} (h : ¬ (lo ≤ i ∧ i ≤ hi)) : isBetw (.int i) lo hi = false := by
  show (decide (lo ≤ i) && decide (i ≤ hi)) = false
  by_cases h1 : lo ≤ i
  · rw [decide_eq_false (show ¬ i ≤ hi from fun z => h ⟨h1, z⟩), Bool.and_false]
  · rw [decide_eq_false h1, Bool.false_and]
theorem nl_yes {part : Str} (h : l < m) (q : Q .non) : c_need_leg C [ruleD C p (.int m) (intsL t1), .int l, .str part] Q Qx :=
  ⟨p, m, .int l, t1, _, part, rfl, rfl, (fun _ => q), fun z => by rw [betw_leg h] at z; cases z⟩
theorem nt_no1 (h : isIns (C 4) d = some false) (hx : Qx ⟨(C 2), [("part", .non)]⟩) : c_need_two C [d, d'] Q Qx := ⟨d, d', false, rfl, h, (fun _ => hx), (fun z => by cases z)⟩
theorem nt_no2 (h : isIns (C 4) d = some false) (hx : Qx ⟨(C 2), [("part", .non)]⟩) : c_need_two C [ruleD C p legs' (intsL t1), d] Q Qx :=
  ⟨_, d, true, rfl, isR, (fun z => by cases z), fun _ => ⟨false, h, fun _ => hx, fun z => by cases z⟩⟩
theorem nt_ne {l2 : D} (h : p ≠ p') (hx : Qx ⟨(C 2), [("part", .str "other")]⟩) : c_need_two C [ruleD C p legs' (intsL t1), ruleD C p' l2 (intsL t2)] Q Qx :=
  ⟨_, _, true, rfl, isR, (fun z => by cases z), fun _ => ⟨true, isR, (fun z => by cases z), fun _ => ⟨p, p', legs', l2, t1, t2, rfl, rfl, fun _ => hx, fun z => (h z).elim⟩⟩⟩
theorem nt_yes {l2 : D} (q : Q .non) : c_need_two C [ruleD C p legs' (intsL t1), ruleD C p l2 (intsL t2)] Q Qx :=
  ⟨_, _, true, rfl, isR, (fun z => by cases z), fun _ => ⟨true, isR, (fun z => by cases z), fun _ => ⟨p, p, legs', l2, t1, t2, rfl, rfl, fun z => (z rfl).elim, fun _ => q⟩⟩⟩
theorem beside_ok (T1 : Tab p m t1) (T2 : Tab p n t2) (h : m + n ≤ 8) (q : Q (ruleD C p (.int (m + n : Nat)) (intsL (tabBeside p m n t1 t2)))) : c_beside C [ruleD C p (.int m) (intsL t1), ruleD C p (.int n) (intsL t2)] Q Qx :=
  ⟨rfl, nt_yes ⟨p, m, n, t1, t2, rfl, T1, T2, fun z => absurd z (by omega), fun _ => q⟩⟩
theorem beside_many (T1 : Tab p m t1) (T2 : Tab p n t2) (h : 8 < m + n) (q : Qx ⟨(C 3), [("most", .int 8)]⟩) : c_beside C [ruleD C p (.int m) (intsL t1), ruleD C p (.int n) (intsL t2)] Q Qx :=
  ⟨rfl, nt_yes ⟨p, m, n, t1, t2, rfl, T1, T2, fun _ => q, fun z => absurd z (by omega)⟩⟩
theorem closed_ok (T1 : Tab p m t1) (hl : l < m) (ho : o < m) (h : l ≠ o) (q : Q (ruleD C p (.int (m - 2 : Nat)) (intsL (tabClosed p m (min l o) (max l o) t1)))) : c_closed C [ruleD C p (.int m) (intsL t1), .int l, .int o] Q Qx :=
  ⟨_, _, _, rfl, nr_yes (nl_yes hl (nl_yes ho ⟨p, m, l, o, t1, rfl, rfl, rfl, T1, hl, ho, fun z => (h z).elim, fun _ => q⟩))⟩
theorem closed_same (T1 : Tab p m t1) (hl : l < m) (q : Qx ⟨(C 1), [("part", .str "other")]⟩) : c_closed C [ruleD C p (.int m) (intsL t1), .int l, .int l] Q Qx :=
  ⟨_, _, _, rfl, nr_yes (nl_yes hl (nl_yes hl ⟨p, m, l, l, t1, rfl, rfl, rfl, T1, hl, hl, fun _ => q, fun z => (z rfl).elim⟩))⟩
theorem joined_ok (T1 : Tab p m t1) (T2 : Tab p n t2) (hl : l < m) (ho : o < n) (h : m + n - 2 ≤ 8) (q : Q (ruleD C p (.int (m + n - 2 : Nat)) (intsL (tabJoined p m n (tabLed m (turnL m l) t1) (tabLed n (turnL n o) t2))))) : c_joined C [ruleD C p (.int m) (intsL t1), .int l, ruleD C p (.int n) (intsL t2), .int o] Q Qx :=
  ⟨_, _, _, _, rfl, nr_yes (nr_yes (nl_yes hl (nt_yes (nl_yes ho ⟨p, m, n, l, o, t1, t2, rfl, rfl, rfl, rfl, T1, T2, hl, ho, fun z => absurd z (by omega), fun _ => q⟩))))⟩
theorem joined_many (T1 : Tab p m t1) (T2 : Tab p n t2) (hl : l < m) (ho : o < n) (h : 8 < m + n - 2) (q : Qx ⟨(C 3), [("most", .int 8)]⟩) : c_joined C [ruleD C p (.int m) (intsL t1), .int l, ruleD C p (.int n) (intsL t2), .int o] Q Qx :=
  ⟨_, _, _, _, rfl, nr_yes (nr_yes (nl_yes hl (nt_yes (nl_yes ho ⟨p, m, n, l, o, t1, t2, rfl, rfl, rfl, rfl, T1, T2, hl, ho, fun _ => q, fun z => absurd z (by omega)⟩))))⟩
end
def badK (C : Nat → Addr) (k : Str) (c : Addr) : Prop := k = "rule" ∧ c = (C 2) ∨ k = "number" ∧ c = (C 1)
def c__law_is_bad (C : Nat → Addr) : Ctr := fun ds Q _ => ∃ c fs k, ds = [.exc c fs, .str k] ∧ badK C k c ∧ Q (.bl true)
theorem sc__law_is_bad : FnScope ["caught", "kind_here"] ["caught", "kind_here"] (defScope s_law_is_bad) := ⟨rfl, rfl, rfl, by decide +kernel, rfl, by decide +kernel, by decide +kernel⟩
theorem ok__law_is_bad {f : Addr} {fd : FuncData} (F : L2.Fun K "_law_is_bad" "_law_is_bad" s_law_is_bad f fd) (M : MC Pr w K mg base C)  : FnG Pr w K mg base (L2.CX Pr w) 1 f fd ["caught", "kind_here"] (spD (PP K C tbs) (fun _ => True) 2 (c__law_is_bad C)) := by
  have nd := sc__law_is_bad.nd
  have T := txt (tbs := tbs) M
  refine fnD (k := 0) F sc__law_is_bad (fun g hgp cdv A outer s H E hr hgd => (ss_one (s_ret (d_ifExp (t_cmp (o_eqS hr.units) (d_var 1) d_str (by rfl)) (d_isi T rfl M.b_isinstance (d_var 0) rfl (.own M.c_BadRule)) (d_isi T rfl M.b_isinstance (d_var 0) rfl (.own M.c_BadNumber)))))) ?_
  intro ds Qd Qx hl hc
  obtain ⟨c, fs, k, rfl, hk, hq⟩ := hc
  rw [show startS ["caught", "kind_here"] [.exc c fs, .str k] = [.v (.exc c fs), .v (.str k)] from rfl]
  dsimp only [DL.vAsg, DL.vFor, DL.vSeqI, DL.vNeg, DL.vPar, DL.vDct, DL.rMem, DL.vEnum, DL.vRepL, DL.vRepr, DL.rRepr, DL.vIsiT, DL.vCallK, DL.vLenS, DL.vRaiX, DL.vRai0, DL.vFld, DL.rMulA, DL.rEqO, DL.rNeO, DL.vTryAs, DL.vCallW, DL.vCallH, DL.vBorL, DL.vStar, DL.vRev, DL.rRev, DL.vZip, DL.items2, DL.seqOf, DL.vAsgO, DL.vNilO, DL.vConsO, DL.vOwnO, DL.setO, DL.rSumA, DL.vBoxI, DL.vBoxS, DL.vCells, DL.vPopOr, DL.vScr, DL.vV, DL.vC, DL.vOp, DL.isB, DL.vTest, DL.vAnd, DL.vOr, DL.vNot, DL.vAndV, DL.vOrV, DL.vNotV, DL.vIf, DL.isNon, DL.vIsN, DL.vNotN, DL.vNil, DL.vCons, DL.vTup, DL.vLst, DL.rAdd, DL.rSub, DL.rMul, DL.rInt, DL.rDiv, DL.rMod, DL.rPow, DL.rShl, DL.rLt, DL.rLe, DL.rGt, DL.rGe, DL.vChain, DL.rEqS, DL.rNeS, DL.rIx, DL.vIx, DL.vNoPart, DL.isI, DL.vPart, DL.rSl, DL.vSl, DL.vCB, DL.rLen, DL.rAbs, DL.rMax2, DL.rMin2, DL.rIntOf, DL.rListOf, DL.rTupleOf, DL.vNext, DL.vSeq, DL.vBreak, DL.vCont, DL.vNever, DL.vFrz, DL.vBor, DL.vBorT, DL.vSet, DL.vDrop, DL.vRet, DL.vRetN, DL.vIfS, DL.vNew, DL.vOwn, DL.isL, DL.isIn, DL.isOwnL, DL.vApp, DL.vSto, DL.gV, DL.gT, DL.vRng1, DL.vRng2, DL.vYes, DL.vLc, DL.vCall, DL.vAttr, DL.vIsi, DL.vMk0, DL.vMkX, endsD, endsI, startI, isInsA, putD, capS, List.getElem?_cons_zero, List.getElem?_cons_succ, List.set_cons_zero, List.set_cons_succ, frz, frz1, wipeS, setN, noOwn, DL.isNon, Bool.not_true, Bool.not_false, List.length_cons, List.length_nil, List.map]
  rcases hk with ⟨rfl, rfl⟩ | ⟨rfl, rfl⟩
  · rw [decide_eq_true rfl]
    exact isx M (excP_in (by decide)) hq
  · rw [decide_eq_false (by decide)]
    exact isx M (excP_in (by decide)) hq
def isPt : D → Bool
  | .non => true
  | .str _ => true
  | _ => false
theorem ne_part {d : D} {Q : D → Prop} (h : isPt d = true) (q : Q (.bl false)) : rNeS d d Q := by
  cases d with
  | non => exact ⟨rfl, rfl, q⟩
  | str x =>
    show Q (.bl (!decide (x = x)))
    rw [decide_eq_true rfl]
    exact q
  | _ => cases h
def c__law_refused (C : Nat → Addr) : Ctr := fun ds Q _ => ∃ (p : Int) (m n : Nat) (t1 t2 : List Int), ds = [.box 0, ruleD C p (.int m) (intsL t1), ruleD C p (.int n) (intsL t2)] ∧ Tab p m t1 ∧ Tab p n t2 ∧ Q (.bl true)
theorem tab_zero {q : Int} (h : primeI q = true) : Tab q 0 [0] := ⟨h, by decide, rfl, fun x hx => by
  have := prime_in h
  cases List.mem_singleton.mp hx
  omega⟩
theorem exc_of {c : Addr} (h : c ∈ [(C 2), (C 1)]) : excP C c := by
  simp only [List.mem_cons, List.not_mem_nil, or_false] at h
  rcases h with rfl | rfl <;> exact excP_in (by decide)
theorem part_of (M : MC Pr w K mg base C) {c : Addr} (h : c ∈ [(C 2), (C 1)]) : (PP K C tbs).attr c "part" := by
  simp only [List.mem_cons, List.not_mem_nil, or_false] at h
  rcases h with rfl | rfl
  · exact M.a_BadRule_part
  · exact M.a_BadNumber_part
theorem sc__law_refused : FnScope ["draw", "rule", "other", "strange", "work", "kind_here", "part_here", "caught", "leg"] ["draw", "rule", "other"] (defScope s_law_refused) := ⟨rfl, rfl, rfl, by decide +kernel, rfl, by decide +kernel, by decide +kernel⟩
theorem ok__law_refused {f : Addr} {fd : FuncData} (F : L2.Fun K "_law_refused" "_law_refused" s_law_refused f fd) (M : MC Pr w K mg base C) (A_Rule : FM Pr w K mg base "Rule" (C 4) 4 ["self", "prime", "table"] (spI (PP K C tbs) (fun _ => True) 2 (C 4) (c_Rule C))) (F__law_caught : FD Pr w K mg base "_law_caught" 11 ["work"] (spH Pr w K mg base (PP K C tbs) (gpD K) 1 10 (cCaught (excP C)))) (F__law_is_bad : FD Pr w K mg base "_law_is_bad" 1 ["caught", "kind_here"] (spD (PP K C tbs) (fun _ => True) 2 (c__law_is_bad C))) (F__law_take : FD Pr w K mg base "_law_take" 3 ["draw", "amount"] (spD (PP K C tbs) (gpD K) 2 cTake)) (F_beside : FD Pr w K mg base "beside" 7 ["rule", "other"] (spD (PP K C tbs) (fun _ => True) 2 (c_beside C))) (F_closed : FD Pr w K mg base "closed" 7 ["rule", "leg", "other"] (spD (PP K C tbs) (fun _ => True) 3 (c_closed C))) (F_joined : FD Pr w K mg base "joined" 9 ["rule", "leg", "other", "place"] (spD (PP K C tbs) (fun _ => True) 4 (c_joined C))) {cA : Addr} (LT : LTab base mg (PP K C tbs) cA (nm__law_refused)) (hfc : fd.code = .ref cA) : FnG Pr w K mg base (L2.CX Pr w) 12 f fd ["draw", "rule", "other"] (spD (PP K C tbs) (gpD K) 3 (c__law_refused C)) := by
  have nd := sc__law_refused.nd
  have T := txt (tbs := tbs) M
  have CD0 := (show CloD Pr w K mg base (PP K C tbs) (gpD K) 9 (defScope s_law_refused) ["draw", "rule", "other", "strange", "work", "kind_here", "part_here", "caught", "leg"] _ from (CloD.lam (N' := ["rule", "strange"]) (ps := []) (fr := ["rule", "strange"]) (js := [1, 3]) (n := 0) (m := 0) 4 rfl rfl (nscopeC_by (by decide +kernel)) (by decide +kernel) rfl (fun _ _ _ _ _ us hl => match us, hl with | [], _ => rfl) (fun g hgp cl c' f A outer s H E hr hgd => (d_callF F_beside (hr.mono (by decide)) hgd rfl trivial (a_cons (d_var 0) (a_cons (d_var 1) a_nil)))) (CloD.lam (N' := ["rule"]) (ps := []) (fr := ["rule"]) (js := [1]) (n := 0) (m := 0) 5 rfl rfl (nscopeC_by (by decide +kernel)) (by decide +kernel) rfl (fun _ _ _ _ _ us hl => match us, hl with | [], _ => rfl) (fun g hgp cl c' f A outer s H E hr hgd => (d_callF F_beside (hr.mono (by decide)) hgd rfl trivial (a_cons (d_var 0) (a_cons d_non a_nil)))) (CloD.lam (N' := ["strange"]) (ps := []) (fr := ["strange"]) (js := [3]) (n := 0) (m := 0) 6 rfl rfl (nscopeC_by (by decide +kernel)) (by decide +kernel) rfl (fun _ _ _ _ _ us hl => match us, hl with | [], _ => rfl) (fun g hgp cl c' f A outer s H E hr hgd => (d_callF F_beside (hr.mono (by decide)) hgd rfl trivial (a_cons d_non (a_cons (d_var 0) a_nil)))) (CloD.lam (N' := []) (ps := []) (fr := []) (js := []) (n := 0) (m := 0) 7 rfl rfl (nscopeC_by (by decide +kernel)) (by decide +kernel) rfl (fun _ _ _ _ _ us hl => match us, hl with | [], _ => rfl) (fun g hgp cl c' f A outer s H E hr hgd => (d_callF F_joined (hr.mono (by decide)) hgd rfl trivial (a_cons d_non (a_cons d_non (a_cons d_non (a_cons d_non a_nil)))))) (CloD.lam (N' := ["rule"]) (ps := []) (fr := ["rule"]) (js := [1]) (n := 0) (m := 0) 8 rfl rfl (nscopeC_by (by decide +kernel)) (by decide +kernel) rfl (fun _ _ _ _ _ us hl => match us, hl with | [], _ => rfl) (fun g hgp cl c' f A outer s H E hr hgd => (d_callF F_joined (hr.mono (by decide)) hgd rfl trivial (a_cons (d_var 0) (a_cons d_non (a_cons d_int (a_cons d_non a_nil)))))) (CloD.lam (N' := ["rule", "strange"]) (ps := []) (fr := ["rule", "strange"]) (js := [1, 3]) (n := 0) (m := 0) 9 rfl rfl (nscopeC_by (by decide +kernel)) (by decide +kernel) rfl (fun _ _ _ _ _ us hl => match us, hl with | [], _ => rfl) (fun g hgp cl c' f A outer s H E hr hgd => (d_callF F_joined (hr.mono (by decide)) hgd rfl trivial (a_cons (d_var 0) (a_cons (d_attr T (d_var 0)) (a_cons (d_var 1) (a_cons d_non a_nil)))))) (CloD.lam (N' := []) (ps := []) (fr := []) (js := []) (n := 0) (m := 0) 10 rfl rfl (nscopeC_by (by decide +kernel)) (by decide +kernel) rfl (fun _ _ _ _ _ us hl => match us, hl with | [], _ => rfl) (fun g hgp cl c' f A outer s H E hr hgd => (d_callF F_closed (hr.mono (by decide)) hgd rfl trivial (a_cons d_non (a_cons d_non (a_cons d_non a_nil))))) (CloD.lam (N' := ["rule"]) (ps := []) (fr := ["rule"]) (js := [1]) (n := 0) (m := 0) 11 rfl rfl (nscopeC_by (by decide +kernel)) (by decide +kernel) rfl (fun _ _ _ _ _ us hl => match us, hl with | [], _ => rfl) (fun g hgp cl c' f A outer s H E hr hgd => (d_callF F_closed (hr.mono (by decide)) hgd rfl trivial (a_cons (d_var 0) (a_cons (d_neg d_int) (a_cons d_non a_nil))))) (CloD.lam (N' := ["rule"]) (ps := []) (fr := ["rule"]) (js := [1]) (n := 0) (m := 0) 12 rfl rfl (nscopeC_by (by decide +kernel)) (by decide +kernel) rfl (fun _ _ _ _ _ us hl => match us, hl with | [], _ => rfl) (fun g hgp cl c' f A outer s H E hr hgd => (d_callF F_closed (hr.mono (by decide)) hgd rfl trivial (a_cons (d_var 0) (a_cons d_bl (a_cons d_non a_nil))))) (CloD.lam (N' := ["rule", "leg", "strange"]) (ps := []) (fr := ["rule", "leg", "strange"]) (js := [1, 8, 3]) (n := 0) (m := 0) 13 rfl rfl (nscopeC_by (by decide +kernel)) (by decide +kernel) rfl (fun _ _ _ _ _ us hl => match us, hl with | [], _ => rfl) (fun g hgp cl c' f A outer s H E hr hgd => (d_callF F_joined (hr.mono (by decide)) hgd rfl trivial (a_cons (d_var 0) (a_cons (d_var 1) (a_cons (d_var 2) (a_cons d_non a_nil)))))) (CloD.lam (N' := ["rule", "leg", "other"]) (ps := []) (fr := ["rule", "leg", "other"]) (js := [1, 8, 2]) (n := 0) (m := 0) 14 rfl rfl (nscopeC_by (by decide +kernel)) (by decide +kernel) rfl (fun _ _ _ _ _ us hl => match us, hl with | [], _ => rfl) (fun g hgp cl c' f A outer s H E hr hgd => (d_callF F_joined (hr.mono (by decide)) hgd rfl trivial (a_cons (d_var 0) (a_cons (d_var 1) (a_cons (d_var 2) (a_cons (d_attr T (d_var 2)) a_nil)))))) (CloD.lam (N' := ["rule", "leg", "other"]) (ps := []) (fr := ["rule", "leg", "other"]) (js := [1, 8, 2]) (n := 0) (m := 0) 15 rfl rfl (nscopeC_by (by decide +kernel)) (by decide +kernel) rfl (fun _ _ _ _ _ us hl => match us, hl with | [], _ => rfl) (fun g hgp cl c' f A outer s H E hr hgd => (d_callF F_joined (hr.mono (by decide)) hgd rfl trivial (a_cons (d_var 0) (a_cons (d_var 1) (a_cons (d_var 2) (a_cons d_non a_nil)))))) (CloD.lam (N' := ["rule", "leg"]) (ps := []) (fr := ["rule", "leg"]) (js := [1, 8]) (n := 0) (m := 0) 16 rfl rfl (nscopeC_by (by decide +kernel)) (by decide +kernel) rfl (fun _ _ _ _ _ us hl => match us, hl with | [], _ => rfl) (fun g hgp cl c' f A outer s H E hr hgd => (d_callF F_closed (hr.mono (by decide)) hgd rfl trivial (a_cons (d_var 0) (a_cons (d_var 1) (a_cons (d_var 1) a_nil))))) (CloD.lam (N' := ["rule", "leg"]) (ps := []) (fr := ["rule", "leg"]) (js := [1, 8]) (n := 0) (m := 0) 17 rfl rfl (nscopeC_by (by decide +kernel)) (by decide +kernel) rfl (fun _ _ _ _ _ us hl => match us, hl with | [], _ => rfl) (fun g hgp cl c' f A outer s H E hr hgd => (d_callF F_closed (hr.mono (by decide)) hgd rfl trivial (a_cons (d_var 0) (a_cons (d_var 1) (a_cons (d_attr T (d_var 0)) a_nil))))) CloD.nil)))))))))))))))
  obtain ⟨tb, CD, etb⟩ := cloD_opened CD0
  refine fnDC (k := 11) F sc__law_refused (fun g hgp cdv hcd A outer s H E hr hgd cs hcs => (ss_cons (s_set 3 nd (d_make A_Rule (hr.mono (by decide)) hgd rfl trivial (a_cons (d_ifExp (t_cmp (o_neS hr.units) (d_attr T (d_var 1)) d_int (by rfl)) d_int d_int) (a_cons (d_lst (a_cons d_int a_nil)) a_nil)))) (ss_cons (s_for (passes_of rfl) rfl (i_seq (d_lst (a_cons (d_tup (a_cons (d_lam 4 hcs (LT.lam (hcd.symm.trans hfc)) rfl rfl (ndef_free (sc := defScope s_law_refused) (fr := ["rule", "strange"]) (by decide +kernel))) (a_cons d_str (a_cons d_str a_nil)))) (a_cons (d_tup (a_cons (d_lam 5 hcs (LT.lam (hcd.symm.trans hfc)) rfl rfl (ndef_free (sc := defScope s_law_refused) (fr := ["rule"]) (by decide +kernel))) (a_cons d_str (a_cons d_non a_nil)))) (a_cons (d_tup (a_cons (d_lam 6 hcs (LT.lam (hcd.symm.trans hfc)) rfl rfl (ndef_free (sc := defScope s_law_refused) (fr := ["strange"]) (by decide +kernel))) (a_cons d_str (a_cons d_non a_nil)))) (a_cons (d_tup (a_cons (d_lam 7 hcs (LT.lam (hcd.symm.trans hfc)) rfl rfl (ndef_free (sc := defScope s_law_refused) (fr := []) (by decide +kernel))) (a_cons d_str (a_cons d_non a_nil)))) (a_cons (d_tup (a_cons (d_lam 8 hcs (LT.lam (hcd.symm.trans hfc)) rfl rfl (ndef_free (sc := defScope s_law_refused) (fr := ["rule"]) (by decide +kernel))) (a_cons d_str (a_cons d_non a_nil)))) (a_cons (d_tup (a_cons (d_lam 9 hcs (LT.lam (hcd.symm.trans hfc)) rfl rfl (ndef_free (sc := defScope s_law_refused) (fr := ["rule", "strange"]) (by decide +kernel))) (a_cons d_str (a_cons d_str a_nil)))) (a_cons (d_tup (a_cons (d_lam 10 hcs (LT.lam (hcd.symm.trans hfc)) rfl rfl (ndef_free (sc := defScope s_law_refused) (fr := []) (by decide +kernel))) (a_cons d_str (a_cons d_non a_nil)))) (a_cons (d_tup (a_cons (d_lam 11 hcs (LT.lam (hcd.symm.trans hfc)) rfl rfl (ndef_free (sc := defScope s_law_refused) (fr := ["rule"]) (by decide +kernel))) (a_cons d_str (a_cons d_str a_nil)))) (a_cons (d_tup (a_cons (d_lam 12 hcs (LT.lam (hcd.symm.trans hfc)) rfl rfl (ndef_free (sc := defScope s_law_refused) (fr := ["rule"]) (by decide +kernel))) (a_cons d_str (a_cons d_str a_nil)))) a_nil))))))))))) (g_names rfl (ngs_cons 4 nd (ngs_cons 5 nd (ngs_cons 6 nd ngs_nil)))) (ss_cons (s_set 7 nd (d_callH hcs F__law_caught CD.frB (by decide) (hr.mono (by decide)) hgd rfl hgp (a_cons (d_var 4) a_nil))) (ss_one (s_if (DW.dt (w_or (t_not (t_val (d_callF F__law_is_bad (hr.mono (by decide)) hgd rfl trivial (a_cons (d_var 7) (a_cons (d_var 5) a_nil))))) (w_or1 (t_cmp (o_neS hr.units) (d_attr T (d_var 7)) (d_var 6) (by rfl))))) (ss_one (s_ret d_bl)) ss_nil)))) (ss_cons (s_if (t_cmp o_gt (d_attr T (d_var 1)) d_int (by rfl)) (ss_cons (s_set 8 nd (d_callF F__law_take (hr.mono (by decide)) hgd rfl hgp (a_cons (d_var 0) (a_cons (d_attr T (d_var 1)) a_nil)))) (ss_one (s_for (passes_of rfl) rfl (i_seq (d_lst (a_cons (d_tup (a_cons (d_lam 13 hcs (LT.lam (hcd.symm.trans hfc)) rfl rfl (ndef_free (sc := defScope s_law_refused) (fr := ["rule", "leg", "strange"]) (by decide +kernel))) (a_cons d_str (a_cons d_str a_nil)))) (a_cons (d_tup (a_cons (d_lam 14 hcs (LT.lam (hcd.symm.trans hfc)) rfl rfl (ndef_free (sc := defScope s_law_refused) (fr := ["rule", "leg", "other"]) (by decide +kernel))) (a_cons d_str (a_cons d_str a_nil)))) (a_cons (d_tup (a_cons (d_lam 15 hcs (LT.lam (hcd.symm.trans hfc)) rfl rfl (ndef_free (sc := defScope s_law_refused) (fr := ["rule", "leg", "other"]) (by decide +kernel))) (a_cons d_str (a_cons d_str a_nil)))) (a_cons (d_tup (a_cons (d_lam 16 hcs (LT.lam (hcd.symm.trans hfc)) rfl rfl (ndef_free (sc := defScope s_law_refused) (fr := ["rule", "leg"]) (by decide +kernel))) (a_cons d_str (a_cons d_str a_nil)))) (a_cons (d_tup (a_cons (d_lam 17 hcs (LT.lam (hcd.symm.trans hfc)) rfl rfl (ndef_free (sc := defScope s_law_refused) (fr := ["rule", "leg"]) (by decide +kernel))) (a_cons d_str (a_cons d_str a_nil)))) a_nil))))))) (g_names rfl (ngs_cons 4 nd (ngs_cons 5 nd (ngs_cons 6 nd ngs_nil)))) (ss_cons (s_set 7 nd (d_callH hcs F__law_caught CD.frB (by decide) (hr.mono (by decide)) hgd rfl hgp (a_cons (d_var 4) a_nil))) (ss_one (s_if (DW.dt (w_or (t_not (t_val (d_callF F__law_is_bad (hr.mono (by decide)) hgd rfl trivial (a_cons (d_var 7) (a_cons (d_var 5) a_nil))))) (w_or1 (t_cmp (o_neS hr.units) (d_attr T (d_var 7)) (d_var 6) (by rfl))))) (ss_one (s_ret d_bl)) ss_nil)))))) ss_nil) (ss_one (s_ret d_bl)))))) ?_
  intro cs ds Qd Qx hl hc
  obtain ⟨p, m, n, t1, t2, rfl, T1, T2, hq⟩ := hc
  rw [show startS ["draw", "rule", "other", "strange", "work", "kind_here", "part_here", "caught", "leg"] [.box 0, ruleD C p (.int m) (intsL t1), ruleD C p (.int n) (intsL t2)] = [.v (.box 0), .v (ruleD C p (.int m) (intsL t1)), .v (ruleD C p (.int n) (intsL t2)), .u, .u, .u, .u, .u, .u] from rfl]
  refine seq_hide fun V1 hV1 => ?_
  dsimp only [DL.vAsg, DL.vFor, DL.vSeqI, DL.vNeg, DL.vPar, DL.vDct, DL.vEnum, DL.vRepL, DL.vRepr, DL.rRepr, DL.vIsiT, DL.vCallK, DL.vLenS, DL.vRaiX, DL.vRai0, DL.vFld, DL.rMulA, DL.rEqO, DL.rNeO, DL.vTryAs, DL.vCallW, DL.vCallH, DL.vBorL, DL.vStar, DL.vRev, DL.rRev, DL.vZip, DL.items2, DL.seqOf, DL.vAsgO, DL.vNilO, DL.vConsO, DL.vOwnO, DL.setO, DL.rSumA, DL.vBoxI, DL.vBoxS, DL.vCells, DL.vPopOr, DL.vScr, DL.vV, DL.vC, DL.vOp, DL.isB, DL.vTest, DL.vAnd, DL.vOr, DL.vNot, DL.vAndV, DL.vOrV, DL.vNotV, DL.vIf, DL.isNon, DL.vIsN, DL.vNotN, DL.vNil, DL.vCons, DL.vTup, DL.vLst, DL.rAdd, DL.rSub, DL.rMul, DL.rInt, DL.rDiv, DL.rMod, DL.rPow, DL.rShl, DL.rLt, DL.rLe, DL.rGt, DL.rGe, DL.vChain, DL.rIx, DL.vIx, DL.vNoPart, DL.isI, DL.vPart, DL.rSl, DL.vSl, DL.vCB, DL.rLen, DL.rAbs, DL.rMax2, DL.rMin2, DL.rIntOf, DL.rListOf, DL.rTupleOf, DL.vNext, DL.vSeq, DL.vBreak, DL.vCont, DL.vNever, DL.vFrz, DL.vBor, DL.vBorT, DL.vSet, DL.vDrop, DL.vRet, DL.vRetN, DL.vIfS, DL.vNew, DL.vOwn, DL.isL, DL.isIn, DL.isOwnL, DL.vApp, DL.vSto, DL.gV, DL.gT, DL.vRng1, DL.vRng2, DL.vYes, DL.vLc, DL.vCall, DL.vAttr, DL.vIsi, DL.vMk0, DL.vMkX, endsD, endsI, startI, isInsA, putD, capS, List.getElem?_cons_zero, List.getElem?_cons_succ, List.set_cons_zero, List.set_cons_succ, frz, frz1, wipeS, setN, noOwn, DL.isNon, Bool.not_true, Bool.not_false, List.length_cons, List.length_nil, List.map]
  obtain ⟨q, hq1, hq2, hq3⟩ : ∃ q : Int, primeI q = true ∧ p ≠ q ∧ q = if p = 3 then 5 else 3 := by
    by_cases h : p = 3
    · exact ⟨5, by decide, by omega, by rw [if_pos h]⟩
    · exact ⟨3, by decide, h, by rw [if_neg h]⟩
  have T0 := tab_zero hq1
  dsimp only [ruleD]
  refine ⟨rfl, M.a_Rule_prime, some1 ?_⟩
  suffices key : ∀ q : Int, primeI q = true → p ≠ q → V1 { nx := fun _ => Qd .non, rt := Qd, ex := fun e _ => Qx e } [.v (.box 0), .v (ruleD C p (.int m) (intsL t1)), .v (ruleD C p (.int n) (intsL t2)), .v (ruleD C q (.int (0 : Nat)) (intsL [0])), .u, .u, .u, .u, .u] by
    dsimp only [DL.vAsg, DL.vFor, DL.vSeqI, DL.vNeg, DL.vPar, DL.vDct, DL.rMem, DL.vEnum, DL.vRepL, DL.vRepr, DL.rRepr, DL.vIsiT, DL.vCallK, DL.vLenS, DL.vRaiX, DL.vRai0, DL.vFld, DL.rMulA, DL.rEqO, DL.rNeO, DL.vTryAs, DL.vCallW, DL.vCallH, DL.vBorL, DL.vStar, DL.vRev, DL.rRev, DL.vZip, DL.items2, DL.seqOf, DL.vAsgO, DL.vNilO, DL.vConsO, DL.vOwnO, DL.setO, DL.rSumA, DL.vBoxI, DL.vBoxS, DL.vCells, DL.vPopOr, DL.vScr, DL.vV, DL.vC, DL.vOp, DL.isB, DL.vTest, DL.vAnd, DL.vOr, DL.vNot, DL.vAndV, DL.vOrV, DL.vNotV, DL.vIf, DL.isNon, DL.vIsN, DL.vNotN, DL.vNil, DL.vCons, DL.vTup, DL.vLst, DL.rAdd, DL.rSub, DL.rMul, DL.rInt, DL.rDiv, DL.rMod, DL.rPow, DL.rShl, DL.rLt, DL.rLe, DL.rGt, DL.rGe, DL.vChain, DL.rEqS, DL.rNeS, DL.rIx, DL.vIx, DL.vNoPart, DL.isI, DL.vPart, DL.rSl, DL.vSl, DL.vCB, DL.rLen, DL.rAbs, DL.rMax2, DL.rMin2, DL.rIntOf, DL.rListOf, DL.rTupleOf, DL.vNext, DL.vSeq, DL.vBreak, DL.vCont, DL.vNever, DL.vFrz, DL.vBor, DL.vBorT, DL.vSet, DL.vDrop, DL.vRet, DL.vRetN, DL.vIfS, DL.vNew, DL.vOwn, DL.isL, DL.isIn, DL.isOwnL, DL.vApp, DL.vSto, DL.gV, DL.gT, DL.vRng1, DL.vRng2, DL.vYes, DL.vLc, DL.vCall, DL.vAttr, DL.vIsi, DL.vMk0, DL.vMkX, endsD, endsI, startI, isInsA, putD, capS, List.getElem?_cons_zero, List.getElem?_cons_succ, List.set_cons_zero, List.set_cons_succ, frz, frz1, wipeS, setN, noOwn, DL.isNon, Bool.not_true, Bool.not_false, List.length_cons, List.length_nil, List.map]
    refine mb _ (fun e => ?_) (fun e => ?_)
    · exact ⟨by decide, rfl, (rule_mk (tab_zero (q := 3) (by decide)) (key 3 (by decide) (by have := of_decide_eq_false (Bool.not_eq_true' _ ▸ e); omega))).1⟩
    · exact ⟨by decide, rfl, (rule_mk (tab_zero (q := 5) (by decide)) (key 5 (by decide) (by have := e; simp at this; omega))).1⟩
  clear hq1 hq2 hq3 T0 q
  intro q hq1 hq2
  rw [hV1]
  clear hV1
  refine seq_hide fun V1 hV1 => ?_
  refine for_hide fun W1 hW1 => ?_
  dsimp only [DL.vAsg, DL.vFor, DL.vSeqI, DL.vNeg, DL.vPar, DL.vDct, DL.vEnum, DL.vRepL, DL.vRepr, DL.rRepr, DL.vIsiT, DL.vCallK, DL.vLenS, DL.vRaiX, DL.vRai0, DL.vFld, DL.rMulA, DL.rEqO, DL.rNeO, DL.vTryAs, DL.vCallW, DL.vCallH, DL.vBorL, DL.vStar, DL.vRev, DL.rRev, DL.vZip, DL.items2, DL.seqOf, DL.vAsgO, DL.vNilO, DL.vConsO, DL.vOwnO, DL.setO, DL.rSumA, DL.vBoxI, DL.vBoxS, DL.vCells, DL.vPopOr, DL.vScr, DL.vV, DL.vC, DL.vOp, DL.isB, DL.vTest, DL.vAnd, DL.vOr, DL.vNot, DL.vAndV, DL.vOrV, DL.vNotV, DL.vIf, DL.isNon, DL.vIsN, DL.vNotN, DL.vNil, DL.vCons, DL.vTup, DL.vLst, DL.rAdd, DL.rSub, DL.rMul, DL.rInt, DL.rDiv, DL.rMod, DL.rPow, DL.rShl, DL.rLt, DL.rLe, DL.rGt, DL.rGe, DL.vChain, DL.rIx, DL.vIx, DL.vNoPart, DL.isI, DL.vPart, DL.rSl, DL.vSl, DL.vCB, DL.rLen, DL.rAbs, DL.rMax2, DL.rMin2, DL.rIntOf, DL.rListOf, DL.rTupleOf, DL.vNext, DL.vSeq, DL.vBreak, DL.vCont, DL.vNever, DL.vFrz, DL.vBor, DL.vBorT, DL.vSet, DL.vDrop, DL.vRet, DL.vRetN, DL.vIfS, DL.vNew, DL.vOwn, DL.isL, DL.isIn, DL.isOwnL, DL.vApp, DL.vSto, DL.gV, DL.gT, DL.vRng1, DL.vRng2, DL.vYes, DL.vLc, DL.vCall, DL.vAttr, DL.vIsi, DL.vMk0, DL.vMkX, endsD, endsI, startI, isInsA, putD, capS, List.getElem?_cons_zero, List.getElem?_cons_succ, List.set_cons_zero, List.set_cons_succ, frz, frz1, wipeS, setN, noOwn, DL.isNon, Bool.not_true, Bool.not_false, List.length_cons, List.length_nil, List.map]
  refine ⟨by decide, by decide, by decide, by decide, by decide, by decide, by decide, by decide, by decide, by decide, fun _ ss => ∃ x4 x5 x6 x7 : Sl, ss = [.v (.box 0), .v (ruleD C p (.int m) (intsL t1)), .v (ruleD C p (.int n) (intsL t2)), .v (ruleD C q (.int (0 : Nat)) (intsL [0])), x4, x5, x6, x7, .u], ⟨_, _, _, _, rfl⟩, ?_, ?_⟩
  · rintro i d ss hd ⟨x4, x5, x6, x7, rfl⟩
    have key : ∃ (ck : Nat) (kind : Str) (pt : D) (c : Addr), d = .tup [.clo ck cs, .str kind, pt] ∧ isPt pt = true ∧ badK C kind c ∧ c ∈ [(C 2), (C 1)] ∧ ∀ (Q : D → Prop) (Qx : Err → Prop), Qx ⟨c, [("part", pt)]⟩ → apF tb cs ([.v (.box 0), .v (ruleD C p (.int m) (intsL t1)), .v (ruleD C p (.int n) (intsL t2)), .v (ruleD C q (.int (0 : Nat)) (intsL [0])), .v (.clo ck cs), .v (.str kind), .v pt, x7, .u]) (.clo ck cs) [] Q Qx := by
      have h := List.mem_of_getElem? hd
      simp only [List.mem_cons, List.not_mem_nil, or_false] at h
      rcases h with rfl | rfl | rfl | rfl | rfl | rfl | rfl | rfl | rfl
      · refine ⟨4, "rule", .str "other", (C 2), rfl, rfl, .inl ⟨rfl, rfl⟩, by simp, fun Q Qx hx => ap_clo (congrFun etb _) ⟨rfl, ?_⟩⟩
        dsimp only [DL.vAsg, DL.vFor, DL.vSeqI, DL.vNeg, DL.vPar, DL.vDct, DL.vEnum, DL.vRepL, DL.vRepr, DL.rRepr, DL.vIsiT, DL.vCallK, DL.vLenS, DL.vRaiX, DL.vRai0, DL.vFld, DL.rMulA, DL.rEqO, DL.rNeO, DL.vTryAs, DL.vCallW, DL.vCallH, DL.vBorL, DL.vStar, DL.vRev, DL.rRev, DL.vZip, DL.items2, DL.seqOf, DL.vAsgO, DL.vNilO, DL.vConsO, DL.vOwnO, DL.setO, DL.rSumA, DL.vBoxI, DL.vBoxS, DL.vCells, DL.vPopOr, DL.vScr, DL.vV, DL.vC, DL.vOp, DL.isB, DL.vTest, DL.vAnd, DL.vOr, DL.vNot, DL.vAndV, DL.vOrV, DL.vNotV, DL.vIf, DL.isNon, DL.vIsN, DL.vNotN, DL.vNil, DL.vCons, DL.vTup, DL.vLst, DL.rAdd, DL.rSub, DL.rMul, DL.rInt, DL.rDiv, DL.rMod, DL.rPow, DL.rShl, DL.rLt, DL.rLe, DL.rGt, DL.rGe, DL.vChain, DL.rIx, DL.vIx, DL.vNoPart, DL.isI, DL.vPart, DL.rSl, DL.vSl, DL.vCB, DL.rLen, DL.rAbs, DL.rMax2, DL.rMin2, DL.rIntOf, DL.rListOf, DL.rTupleOf, DL.vNext, DL.vSeq, DL.vBreak, DL.vCont, DL.vNever, DL.vFrz, DL.vBor, DL.vBorT, DL.vSet, DL.vDrop, DL.vRet, DL.vRetN, DL.vIfS, DL.vNew, DL.vOwn, DL.isL, DL.isIn, DL.isOwnL, DL.vApp, DL.vSto, DL.gV, DL.gT, DL.vRng1, DL.vRng2, DL.vYes, DL.vLc, DL.vCall, DL.vAttr, DL.vIsi, DL.vMk0, DL.vMkX, endsD, endsI, startI, isInsA, putD, capS, List.getElem?_cons_zero, List.getElem?_cons_succ, List.set_cons_zero, List.set_cons_succ, frz, frz1, wipeS, setN, noOwn, DL.isNon, Bool.not_true, Bool.not_false, List.length_cons, List.length_nil, List.map, CloT.start]
        exact ⟨rfl, rfl, nt_ne hq2 hx⟩
      · refine ⟨5, "rule", .non, (C 2), rfl, rfl, .inl ⟨rfl, rfl⟩, by simp, fun Q Qx hx => ap_clo (congrFun etb _) ⟨rfl, ?_⟩⟩
        dsimp only [DL.vAsg, DL.vFor, DL.vSeqI, DL.vNeg, DL.vPar, DL.vDct, DL.vEnum, DL.vRepL, DL.vRepr, DL.rRepr, DL.vIsiT, DL.vCallK, DL.vLenS, DL.vRaiX, DL.vRai0, DL.vFld, DL.rMulA, DL.rEqO, DL.rNeO, DL.vTryAs, DL.vCallW, DL.vCallH, DL.vBorL, DL.vStar, DL.vRev, DL.rRev, DL.vZip, DL.items2, DL.seqOf, DL.vAsgO, DL.vNilO, DL.vConsO, DL.vOwnO, DL.setO, DL.rSumA, DL.vBoxI, DL.vBoxS, DL.vCells, DL.vPopOr, DL.vScr, DL.vV, DL.vC, DL.vOp, DL.isB, DL.vTest, DL.vAnd, DL.vOr, DL.vNot, DL.vAndV, DL.vOrV, DL.vNotV, DL.vIf, DL.isNon, DL.vIsN, DL.vNotN, DL.vNil, DL.vCons, DL.vTup, DL.vLst, DL.rAdd, DL.rSub, DL.rMul, DL.rInt, DL.rDiv, DL.rMod, DL.rPow, DL.rShl, DL.rLt, DL.rLe, DL.rGt, DL.rGe, DL.vChain, DL.rIx, DL.vIx, DL.vNoPart, DL.isI, DL.vPart, DL.rSl, DL.vSl, DL.vCB, DL.rLen, DL.rAbs, DL.rMax2, DL.rMin2, DL.rIntOf, DL.rListOf, DL.rTupleOf, DL.vNext, DL.vSeq, DL.vBreak, DL.vCont, DL.vNever, DL.vFrz, DL.vBor, DL.vBorT, DL.vSet, DL.vDrop, DL.vRet, DL.vRetN, DL.vIfS, DL.vNew, DL.vOwn, DL.isL, DL.isIn, DL.isOwnL, DL.vApp, DL.vSto, DL.gV, DL.gT, DL.vRng1, DL.vRng2, DL.vYes, DL.vLc, DL.vCall, DL.vAttr, DL.vIsi, DL.vMk0, DL.vMkX, endsD, endsI, startI, isInsA, putD, capS, List.getElem?_cons_zero, List.getElem?_cons_succ, List.set_cons_zero, List.set_cons_succ, frz, frz1, wipeS, setN, noOwn, DL.isNon, Bool.not_true, Bool.not_false, List.length_cons, List.length_nil, List.map, CloT.start]
        exact ⟨rfl, rfl, nt_no2 rfl hx⟩
      · refine ⟨6, "rule", .non, (C 2), rfl, rfl, .inl ⟨rfl, rfl⟩, by simp, fun Q Qx hx => ap_clo (congrFun etb _) ⟨rfl, ?_⟩⟩
        dsimp only [DL.vAsg, DL.vFor, DL.vSeqI, DL.vNeg, DL.vPar, DL.vDct, DL.vEnum, DL.vRepL, DL.vRepr, DL.rRepr, DL.vIsiT, DL.vCallK, DL.vLenS, DL.vRaiX, DL.vRai0, DL.vFld, DL.rMulA, DL.rEqO, DL.rNeO, DL.vTryAs, DL.vCallW, DL.vCallH, DL.vBorL, DL.vStar, DL.vRev, DL.rRev, DL.vZip, DL.items2, DL.seqOf, DL.vAsgO, DL.vNilO, DL.vConsO, DL.vOwnO, DL.setO, DL.rSumA, DL.vBoxI, DL.vBoxS, DL.vCells, DL.vPopOr, DL.vScr, DL.vV, DL.vC, DL.vOp, DL.isB, DL.vTest, DL.vAnd, DL.vOr, DL.vNot, DL.vAndV, DL.vOrV, DL.vNotV, DL.vIf, DL.isNon, DL.vIsN, DL.vNotN, DL.vNil, DL.vCons, DL.vTup, DL.vLst, DL.rAdd, DL.rSub, DL.rMul, DL.rInt, DL.rDiv, DL.rMod, DL.rPow, DL.rShl, DL.rLt, DL.rLe, DL.rGt, DL.rGe, DL.vChain, DL.rIx, DL.vIx, DL.vNoPart, DL.isI, DL.vPart, DL.rSl, DL.vSl, DL.vCB, DL.rLen, DL.rAbs, DL.rMax2, DL.rMin2, DL.rIntOf, DL.rListOf, DL.rTupleOf, DL.vNext, DL.vSeq, DL.vBreak, DL.vCont, DL.vNever, DL.vFrz, DL.vBor, DL.vBorT, DL.vSet, DL.vDrop, DL.vRet, DL.vRetN, DL.vIfS, DL.vNew, DL.vOwn, DL.isL, DL.isIn, DL.isOwnL, DL.vApp, DL.vSto, DL.gV, DL.gT, DL.vRng1, DL.vRng2, DL.vYes, DL.vLc, DL.vCall, DL.vAttr, DL.vIsi, DL.vMk0, DL.vMkX, endsD, endsI, startI, isInsA, putD, capS, List.getElem?_cons_zero, List.getElem?_cons_succ, List.set_cons_zero, List.set_cons_succ, frz, frz1, wipeS, setN, noOwn, DL.isNon, Bool.not_true, Bool.not_false, List.length_cons, List.length_nil, List.map, CloT.start]
        exact ⟨rfl, rfl, nt_no1 rfl hx⟩
      · refine ⟨7, "rule", .non, (C 2), rfl, rfl, .inl ⟨rfl, rfl⟩, by simp, fun Q Qx hx => ap_clo (congrFun etb _) ⟨rfl, ?_⟩⟩
        dsimp only [DL.vAsg, DL.vFor, DL.vSeqI, DL.vNeg, DL.vPar, DL.vDct, DL.vEnum, DL.vRepL, DL.vRepr, DL.rRepr, DL.vIsiT, DL.vCallK, DL.vLenS, DL.vRaiX, DL.vRai0, DL.vFld, DL.rMulA, DL.rEqO, DL.rNeO, DL.vTryAs, DL.vCallW, DL.vCallH, DL.vBorL, DL.vStar, DL.vRev, DL.rRev, DL.vZip, DL.items2, DL.seqOf, DL.vAsgO, DL.vNilO, DL.vConsO, DL.vOwnO, DL.setO, DL.rSumA, DL.vBoxI, DL.vBoxS, DL.vCells, DL.vPopOr, DL.vScr, DL.vV, DL.vC, DL.vOp, DL.isB, DL.vTest, DL.vAnd, DL.vOr, DL.vNot, DL.vAndV, DL.vOrV, DL.vNotV, DL.vIf, DL.isNon, DL.vIsN, DL.vNotN, DL.vNil, DL.vCons, DL.vTup, DL.vLst, DL.rAdd, DL.rSub, DL.rMul, DL.rInt, DL.rDiv, DL.rMod, DL.rPow, DL.rShl, DL.rLt, DL.rLe, DL.rGt, DL.rGe, DL.vChain, DL.rIx, DL.vIx, DL.vNoPart, DL.isI, DL.vPart, DL.rSl, DL.vSl, DL.vCB, DL.rLen, DL.rAbs, DL.rMax2, DL.rMin2, DL.rIntOf, DL.rListOf, DL.rTupleOf, DL.vNext, DL.vSeq, DL.vBreak, DL.vCont, DL.vNever, DL.vFrz, DL.vBor, DL.vBorT, DL.vSet, DL.vDrop, DL.vRet, DL.vRetN, DL.vIfS, DL.vNew, DL.vOwn, DL.isL, DL.isIn, DL.isOwnL, DL.vApp, DL.vSto, DL.gV, DL.gT, DL.vRng1, DL.vRng2, DL.vYes, DL.vLc, DL.vCall, DL.vAttr, DL.vIsi, DL.vMk0, DL.vMkX, endsD, endsI, startI, isInsA, putD, capS, List.getElem?_cons_zero, List.getElem?_cons_succ, List.set_cons_zero, List.set_cons_succ, frz, frz1, wipeS, setN, noOwn, DL.isNon, Bool.not_true, Bool.not_false, List.length_cons, List.length_nil, List.map, CloT.start]
        exact ⟨rfl, _, _, _, _, rfl, nr_no rfl hx⟩
      · refine ⟨8, "rule", .non, (C 2), rfl, rfl, .inl ⟨rfl, rfl⟩, by simp, fun Q Qx hx => ap_clo (congrFun etb _) ⟨rfl, ?_⟩⟩
        dsimp only [DL.vAsg, DL.vFor, DL.vSeqI, DL.vNeg, DL.vPar, DL.vDct, DL.vEnum, DL.vRepL, DL.vRepr, DL.rRepr, DL.vIsiT, DL.vCallK, DL.vLenS, DL.vRaiX, DL.vRai0, DL.vFld, DL.rMulA, DL.rEqO, DL.rNeO, DL.vTryAs, DL.vCallW, DL.vCallH, DL.vBorL, DL.vStar, DL.vRev, DL.rRev, DL.vZip, DL.items2, DL.seqOf, DL.vAsgO, DL.vNilO, DL.vConsO, DL.vOwnO, DL.setO, DL.rSumA, DL.vBoxI, DL.vBoxS, DL.vCells, DL.vPopOr, DL.vScr, DL.vV, DL.vC, DL.vOp, DL.isB, DL.vTest, DL.vAnd, DL.vOr, DL.vNot, DL.vAndV, DL.vOrV, DL.vNotV, DL.vIf, DL.isNon, DL.vIsN, DL.vNotN, DL.vNil, DL.vCons, DL.vTup, DL.vLst, DL.rAdd, DL.rSub, DL.rMul, DL.rInt, DL.rDiv, DL.rMod, DL.rPow, DL.rShl, DL.rLt, DL.rLe, DL.rGt, DL.rGe, DL.vChain, DL.rIx, DL.vIx, DL.vNoPart, DL.isI, DL.vPart, DL.rSl, DL.vSl, DL.vCB, DL.rLen, DL.rAbs, DL.rMax2, DL.rMin2, DL.rIntOf, DL.rListOf, DL.rTupleOf, DL.vNext, DL.vSeq, DL.vBreak, DL.vCont, DL.vNever, DL.vFrz, DL.vBor, DL.vBorT, DL.vSet, DL.vDrop, DL.vRet, DL.vRetN, DL.vIfS, DL.vNew, DL.vOwn, DL.isL, DL.isIn, DL.isOwnL, DL.vApp, DL.vSto, DL.gV, DL.gT, DL.vRng1, DL.vRng2, DL.vYes, DL.vLc, DL.vCall, DL.vAttr, DL.vIsi, DL.vMk0, DL.vMkX, endsD, endsI, startI, isInsA, putD, capS, List.getElem?_cons_zero, List.getElem?_cons_succ, List.set_cons_zero, List.set_cons_succ, frz, frz1, wipeS, setN, noOwn, DL.isNon, Bool.not_true, Bool.not_false, List.length_cons, List.length_nil, List.map, CloT.start]
        exact ⟨rfl, _, _, _, _, rfl, nr_yes (nr_no rfl hx)⟩
      · refine ⟨9, "number", .str "leg", (C 1), rfl, rfl, .inr ⟨rfl, rfl⟩, by simp, fun Q Qx hx => ap_clo (congrFun etb _) ⟨rfl, ?_⟩⟩
        dsimp only [DL.vAsg, DL.vFor, DL.vSeqI, DL.vNeg, DL.vPar, DL.vDct, DL.vEnum, DL.vRepL, DL.vRepr, DL.rRepr, DL.vIsiT, DL.vCallK, DL.vLenS, DL.vRaiX, DL.vRai0, DL.vFld, DL.rMulA, DL.rEqO, DL.rNeO, DL.vTryAs, DL.vCallW, DL.vCallH, DL.vBorL, DL.vStar, DL.vRev, DL.rRev, DL.vZip, DL.items2, DL.seqOf, DL.vAsgO, DL.vNilO, DL.vConsO, DL.vOwnO, DL.setO, DL.rSumA, DL.vBoxI, DL.vBoxS, DL.vCells, DL.vPopOr, DL.vScr, DL.vV, DL.vC, DL.vOp, DL.isB, DL.vTest, DL.vAnd, DL.vOr, DL.vNot, DL.vAndV, DL.vOrV, DL.vNotV, DL.vIf, DL.isNon, DL.vIsN, DL.vNotN, DL.vNil, DL.vCons, DL.vTup, DL.vLst, DL.rAdd, DL.rSub, DL.rMul, DL.rInt, DL.rDiv, DL.rMod, DL.rPow, DL.rShl, DL.rLt, DL.rLe, DL.rGt, DL.rGe, DL.vChain, DL.rIx, DL.vIx, DL.vNoPart, DL.isI, DL.vPart, DL.rSl, DL.vSl, DL.vCB, DL.rLen, DL.rAbs, DL.rMax2, DL.rMin2, DL.rIntOf, DL.rListOf, DL.rTupleOf, DL.vNext, DL.vSeq, DL.vBreak, DL.vCont, DL.vNever, DL.vFrz, DL.vBor, DL.vBorT, DL.vSet, DL.vDrop, DL.vRet, DL.vRetN, DL.vIfS, DL.vNew, DL.vOwn, DL.isL, DL.isIn, DL.isOwnL, DL.vApp, DL.vSto, DL.gV, DL.gT, DL.vRng1, DL.vRng2, DL.vYes, DL.vLc, DL.vCall, DL.vAttr, DL.vIsi, DL.vMk0, DL.vMkX, endsD, endsI, startI, isInsA, putD, capS, List.getElem?_cons_zero, List.getElem?_cons_succ, List.set_cons_zero, List.set_cons_succ, frz, frz1, wipeS, setN, noOwn, DL.isNon, Bool.not_true, Bool.not_false, List.length_cons, List.length_nil, List.map, CloT.start]
        exact attr_legs M ⟨rfl, _, _, _, _, rfl, nr_yes (nr_yes (nl_no rfl (betw_no (by omega)) hx))⟩
      · refine ⟨10, "rule", .non, (C 2), rfl, rfl, .inl ⟨rfl, rfl⟩, by simp, fun Q Qx hx => ap_clo (congrFun etb _) ⟨rfl, ?_⟩⟩
        dsimp only [DL.vAsg, DL.vFor, DL.vSeqI, DL.vNeg, DL.vPar, DL.vDct, DL.vEnum, DL.vRepL, DL.vRepr, DL.rRepr, DL.vIsiT, DL.vCallK, DL.vLenS, DL.vRaiX, DL.vRai0, DL.vFld, DL.rMulA, DL.rEqO, DL.rNeO, DL.vTryAs, DL.vCallW, DL.vCallH, DL.vBorL, DL.vStar, DL.vRev, DL.rRev, DL.vZip, DL.items2, DL.seqOf, DL.vAsgO, DL.vNilO, DL.vConsO, DL.vOwnO, DL.setO, DL.rSumA, DL.vBoxI, DL.vBoxS, DL.vCells, DL.vPopOr, DL.vScr, DL.vV, DL.vC, DL.vOp, DL.isB, DL.vTest, DL.vAnd, DL.vOr, DL.vNot, DL.vAndV, DL.vOrV, DL.vNotV, DL.vIf, DL.isNon, DL.vIsN, DL.vNotN, DL.vNil, DL.vCons, DL.vTup, DL.vLst, DL.rAdd, DL.rSub, DL.rMul, DL.rInt, DL.rDiv, DL.rMod, DL.rPow, DL.rShl, DL.rLt, DL.rLe, DL.rGt, DL.rGe, DL.vChain, DL.rIx, DL.vIx, DL.vNoPart, DL.isI, DL.vPart, DL.rSl, DL.vSl, DL.vCB, DL.rLen, DL.rAbs, DL.rMax2, DL.rMin2, DL.rIntOf, DL.rListOf, DL.rTupleOf, DL.vNext, DL.vSeq, DL.vBreak, DL.vCont, DL.vNever, DL.vFrz, DL.vBor, DL.vBorT, DL.vSet, DL.vDrop, DL.vRet, DL.vRetN, DL.vIfS, DL.vNew, DL.vOwn, DL.isL, DL.isIn, DL.isOwnL, DL.vApp, DL.vSto, DL.gV, DL.gT, DL.vRng1, DL.vRng2, DL.vYes, DL.vLc, DL.vCall, DL.vAttr, DL.vIsi, DL.vMk0, DL.vMkX, endsD, endsI, startI, isInsA, putD, capS, List.getElem?_cons_zero, List.getElem?_cons_succ, List.set_cons_zero, List.set_cons_succ, frz, frz1, wipeS, setN, noOwn, DL.isNon, Bool.not_true, Bool.not_false, List.length_cons, List.length_nil, List.map, CloT.start]
        exact ⟨rfl, _, _, _, rfl, nr_no rfl hx⟩
      · refine ⟨11, "number", .str "leg", (C 1), rfl, rfl, .inr ⟨rfl, rfl⟩, by simp, fun Q Qx hx => ap_clo (congrFun etb _) ⟨rfl, ?_⟩⟩
        dsimp only [DL.vAsg, DL.vFor, DL.vSeqI, DL.vNeg, DL.vPar, DL.vDct, DL.vEnum, DL.vRepL, DL.vRepr, DL.rRepr, DL.vIsiT, DL.vCallK, DL.vLenS, DL.vRaiX, DL.vRai0, DL.vFld, DL.rMulA, DL.rEqO, DL.rNeO, DL.vTryAs, DL.vCallW, DL.vCallH, DL.vBorL, DL.vStar, DL.vRev, DL.rRev, DL.vZip, DL.items2, DL.seqOf, DL.vAsgO, DL.vNilO, DL.vConsO, DL.vOwnO, DL.setO, DL.rSumA, DL.vBoxI, DL.vBoxS, DL.vCells, DL.vPopOr, DL.vScr, DL.vV, DL.vC, DL.vOp, DL.isB, DL.vTest, DL.vAnd, DL.vOr, DL.vNot, DL.vAndV, DL.vOrV, DL.vNotV, DL.vIf, DL.isNon, DL.vIsN, DL.vNotN, DL.vNil, DL.vCons, DL.vTup, DL.vLst, DL.rAdd, DL.rSub, DL.rMul, DL.rInt, DL.rDiv, DL.rMod, DL.rPow, DL.rShl, DL.rLt, DL.rLe, DL.rGt, DL.rGe, DL.vChain, DL.rIx, DL.vIx, DL.vNoPart, DL.isI, DL.vPart, DL.rSl, DL.vSl, DL.vCB, DL.rLen, DL.rAbs, DL.rMax2, DL.rMin2, DL.rIntOf, DL.rListOf, DL.rTupleOf, DL.vNext, DL.vSeq, DL.vBreak, DL.vCont, DL.vNever, DL.vFrz, DL.vBor, DL.vBorT, DL.vSet, DL.vDrop, DL.vRet, DL.vRetN, DL.vIfS, DL.vNew, DL.vOwn, DL.isL, DL.isIn, DL.isOwnL, DL.vApp, DL.vSto, DL.gV, DL.gT, DL.vRng1, DL.vRng2, DL.vYes, DL.vLc, DL.vCall, DL.vAttr, DL.vIsi, DL.vMk0, DL.vMkX, endsD, endsI, startI, isInsA, putD, capS, List.getElem?_cons_zero, List.getElem?_cons_succ, List.set_cons_zero, List.set_cons_succ, frz, frz1, wipeS, setN, noOwn, DL.isNon, Bool.not_true, Bool.not_false, List.length_cons, List.length_nil, List.map, CloT.start]
        exact ⟨rfl, _, _, _, rfl, nr_yes (nl_no rfl (betw_no (by omega)) hx)⟩
      · refine ⟨12, "number", .str "leg", (C 1), rfl, rfl, .inr ⟨rfl, rfl⟩, by simp, fun Q Qx hx => ap_clo (congrFun etb _) ⟨rfl, ?_⟩⟩
        dsimp only [DL.vAsg, DL.vFor, DL.vSeqI, DL.vNeg, DL.vPar, DL.vDct, DL.vEnum, DL.vRepL, DL.vRepr, DL.rRepr, DL.vIsiT, DL.vCallK, DL.vLenS, DL.vRaiX, DL.vRai0, DL.vFld, DL.rMulA, DL.rEqO, DL.rNeO, DL.vTryAs, DL.vCallW, DL.vCallH, DL.vBorL, DL.vStar, DL.vRev, DL.rRev, DL.vZip, DL.items2, DL.seqOf, DL.vAsgO, DL.vNilO, DL.vConsO, DL.vOwnO, DL.setO, DL.rSumA, DL.vBoxI, DL.vBoxS, DL.vCells, DL.vPopOr, DL.vScr, DL.vV, DL.vC, DL.vOp, DL.isB, DL.vTest, DL.vAnd, DL.vOr, DL.vNot, DL.vAndV, DL.vOrV, DL.vNotV, DL.vIf, DL.isNon, DL.vIsN, DL.vNotN, DL.vNil, DL.vCons, DL.vTup, DL.vLst, DL.rAdd, DL.rSub, DL.rMul, DL.rInt, DL.rDiv, DL.rMod, DL.rPow, DL.rShl, DL.rLt, DL.rLe, DL.rGt, DL.rGe, DL.vChain, DL.rIx, DL.vIx, DL.vNoPart, DL.isI, DL.vPart, DL.rSl, DL.vSl, DL.vCB, DL.rLen, DL.rAbs, DL.rMax2, DL.rMin2, DL.rIntOf, DL.rListOf, DL.rTupleOf, DL.vNext, DL.vSeq, DL.vBreak, DL.vCont, DL.vNever, DL.vFrz, DL.vBor, DL.vBorT, DL.vSet, DL.vDrop, DL.vRet, DL.vRetN, DL.vIfS, DL.vNew, DL.vOwn, DL.isL, DL.isIn, DL.isOwnL, DL.vApp, DL.vSto, DL.gV, DL.gT, DL.vRng1, DL.vRng2, DL.vYes, DL.vLc, DL.vCall, DL.vAttr, DL.vIsi, DL.vMk0, DL.vMkX, endsD, endsI, startI, isInsA, putD, capS, List.getElem?_cons_zero, List.getElem?_cons_succ, List.set_cons_zero, List.set_cons_succ, frz, frz1, wipeS, setN, noOwn, DL.isNon, Bool.not_true, Bool.not_false, List.length_cons, List.length_nil, List.map, CloT.start]
        exact ⟨rfl, _, _, _, rfl, nr_yes (nl_no rfl rfl hx)⟩
    obtain ⟨ck, kind, pt, c, rfl, hpt, hbad, hmem, hap⟩ := key
    refine ⟨rfl, ?_⟩
    rw [hW1]
    refine seq_hide fun Va hVa => ?_
    dsimp only [DL.vAsg, DL.vFor, DL.vSeqI, DL.vNeg, DL.vPar, DL.vDct, DL.vEnum, DL.vRepL, DL.vRepr, DL.rRepr, DL.vIsiT, DL.vCallK, DL.vLenS, DL.vRaiX, DL.vRai0, DL.vFld, DL.rMulA, DL.rEqO, DL.rNeO, DL.vTryAs, DL.vCallW, DL.vCallH, DL.vBorL, DL.vStar, DL.vRev, DL.rRev, DL.vZip, DL.items2, DL.seqOf, DL.vAsgO, DL.vNilO, DL.vConsO, DL.vOwnO, DL.setO, DL.rSumA, DL.vBoxI, DL.vBoxS, DL.vCells, DL.vPopOr, DL.vScr, DL.vV, DL.vC, DL.vOp, DL.isB, DL.vTest, DL.vAnd, DL.vOr, DL.vNot, DL.vAndV, DL.vOrV, DL.vNotV, DL.vIf, DL.isNon, DL.vIsN, DL.vNotN, DL.vNil, DL.vCons, DL.vTup, DL.vLst, DL.rAdd, DL.rSub, DL.rMul, DL.rInt, DL.rDiv, DL.rMod, DL.rPow, DL.rShl, DL.rLt, DL.rLe, DL.rGt, DL.rGe, DL.vChain, DL.rIx, DL.vIx, DL.vNoPart, DL.isI, DL.vPart, DL.rSl, DL.vSl, DL.vCB, DL.rLen, DL.rAbs, DL.rMax2, DL.rMin2, DL.rIntOf, DL.rListOf, DL.rTupleOf, DL.vNext, DL.vSeq, DL.vBreak, DL.vCont, DL.vNever, DL.vFrz, DL.vBor, DL.vBorT, DL.vSet, DL.vDrop, DL.vRet, DL.vRetN, DL.vIfS, DL.vNew, DL.vOwn, DL.isL, DL.isIn, DL.isOwnL, DL.vApp, DL.vSto, DL.gV, DL.gT, DL.vRng1, DL.vRng2, DL.vYes, DL.vLc, DL.vCall, DL.vAttr, DL.vIsi, DL.vMk0, DL.vMkX, endsD, endsI, startI, isInsA, putD, capS, List.getElem?_cons_zero, List.getElem?_cons_succ, List.set_cons_zero, List.set_cons_succ, frz, frz1, wipeS, setN, noOwn, DL.isNon, Bool.not_true, Bool.not_false, List.length_cons, List.length_nil, List.map]
    refine ⟨rfl, _, rfl, rfl, hap _ _ (caught_yes (exc_of hmem) ?_)⟩
    rw [hVa]
    dsimp only [DL.vAsg, DL.vFor, DL.vSeqI, DL.vNeg, DL.vPar, DL.vDct, DL.vEnum, DL.vRepL, DL.vRepr, DL.rRepr, DL.vIsiT, DL.vCallK, DL.vLenS, DL.vRaiX, DL.vRai0, DL.vFld, DL.rMulA, DL.rEqO, DL.rNeO, DL.vTryAs, DL.vCallW, DL.vCallH, DL.vBorL, DL.vStar, DL.vRev, DL.rRev, DL.vZip, DL.items2, DL.seqOf, DL.vAsgO, DL.vNilO, DL.vConsO, DL.vOwnO, DL.setO, DL.rSumA, DL.vBoxI, DL.vBoxS, DL.vCells, DL.vPopOr, DL.vScr, DL.vV, DL.vC, DL.vOp, DL.isB, DL.vTest, DL.vAnd, DL.vOr, DL.vNot, DL.vAndV, DL.vOrV, DL.vNotV, DL.vIf, DL.isNon, DL.vIsN, DL.vNotN, DL.vNil, DL.vCons, DL.vTup, DL.vLst, DL.rAdd, DL.rSub, DL.rMul, DL.rInt, DL.rDiv, DL.rMod, DL.rPow, DL.rShl, DL.rLt, DL.rLe, DL.rGt, DL.rGe, DL.vChain, DL.rIx, DL.vIx, DL.vNoPart, DL.isI, DL.vPart, DL.rSl, DL.vSl, DL.vCB, DL.rLen, DL.rAbs, DL.rMax2, DL.rMin2, DL.rIntOf, DL.rListOf, DL.rTupleOf, DL.vNext, DL.vSeq, DL.vBreak, DL.vCont, DL.vNever, DL.vFrz, DL.vBor, DL.vBorT, DL.vSet, DL.vDrop, DL.vRet, DL.vRetN, DL.vIfS, DL.vNew, DL.vOwn, DL.isL, DL.isIn, DL.isOwnL, DL.vApp, DL.vSto, DL.gV, DL.gT, DL.vRng1, DL.vRng2, DL.vYes, DL.vLc, DL.vCall, DL.vAttr, DL.vIsi, DL.vMk0, DL.vMkX, endsD, endsI, startI, isInsA, putD, capS, List.getElem?_cons_zero, List.getElem?_cons_succ, List.set_cons_zero, List.set_cons_succ, frz, frz1, wipeS, setN, noOwn, DL.isNon, Bool.not_true, Bool.not_false, List.length_cons, List.length_nil, List.map]
    refine ⟨rfl, c, _, kind, rfl, hbad, ?_⟩
    dsimp only [DL.vAsg, DL.vFor, DL.vSeqI, DL.vNeg, DL.vPar, DL.vDct, DL.vEnum, DL.vRepL, DL.vRepr, DL.rRepr, DL.vIsiT, DL.vCallK, DL.vLenS, DL.vRaiX, DL.vRai0, DL.vFld, DL.rMulA, DL.rEqO, DL.rNeO, DL.vTryAs, DL.vCallW, DL.vCallH, DL.vBorL, DL.vStar, DL.vRev, DL.rRev, DL.vZip, DL.items2, DL.seqOf, DL.vAsgO, DL.vNilO, DL.vConsO, DL.vOwnO, DL.setO, DL.rSumA, DL.vBoxI, DL.vBoxS, DL.vCells, DL.vPopOr, DL.vScr, DL.vV, DL.vC, DL.vOp, DL.isB, DL.vTest, DL.vAnd, DL.vOr, DL.vNot, DL.vAndV, DL.vOrV, DL.vNotV, DL.vIf, DL.isNon, DL.vIsN, DL.vNotN, DL.vNil, DL.vCons, DL.vTup, DL.vLst, DL.rAdd, DL.rSub, DL.rMul, DL.rInt, DL.rDiv, DL.rMod, DL.rPow, DL.rShl, DL.rLt, DL.rLe, DL.rGt, DL.rGe, DL.vChain, DL.rIx, DL.vIx, DL.vNoPart, DL.isI, DL.vPart, DL.rSl, DL.vSl, DL.vCB, DL.rLen, DL.rAbs, DL.rMax2, DL.rMin2, DL.rIntOf, DL.rListOf, DL.rTupleOf, DL.vNext, DL.vSeq, DL.vBreak, DL.vCont, DL.vNever, DL.vFrz, DL.vBor, DL.vBorT, DL.vSet, DL.vDrop, DL.vRet, DL.vRetN, DL.vIfS, DL.vNew, DL.vOwn, DL.isL, DL.isIn, DL.isOwnL, DL.vApp, DL.vSto, DL.gV, DL.gT, DL.vRng1, DL.vRng2, DL.vYes, DL.vLc, DL.vCall, DL.vAttr, DL.vIsi, DL.vMk0, DL.vMkX, endsD, endsI, startI, isInsA, putD, capS, List.getElem?_cons_zero, List.getElem?_cons_succ, List.set_cons_zero, List.set_cons_succ, frz, frz1, wipeS, setN, noOwn, DL.isNon, Bool.not_true, Bool.not_false, List.length_cons, List.length_nil, List.map]
    refine ⟨exc_of hmem, part_of M hmem, some1 (ne_part hpt ?_)⟩
    exact ⟨_, _, _, _, rfl⟩
  rintro ss ⟨x4, x5, x6, x7, rfl⟩
  rw [hV1]
  clear hV1 hW1
  refine seq_hide fun V1 hV1 => ?_
  refine if_hide fun A1 hA1 B1 hB1 => ?_
  dsimp only [DL.vAsg, DL.vFor, DL.vSeqI, DL.vNeg, DL.vPar, DL.vDct, DL.vEnum, DL.vRepL, DL.vRepr, DL.rRepr, DL.vIsiT, DL.vCallK, DL.vLenS, DL.vRaiX, DL.vRai0, DL.vFld, DL.rMulA, DL.rEqO, DL.rNeO, DL.vTryAs, DL.vCallW, DL.vCallH, DL.vBorL, DL.vStar, DL.vRev, DL.rRev, DL.vZip, DL.items2, DL.seqOf, DL.vAsgO, DL.vNilO, DL.vConsO, DL.vOwnO, DL.setO, DL.rSumA, DL.vBoxI, DL.vBoxS, DL.vCells, DL.vPopOr, DL.vScr, DL.vV, DL.vC, DL.vOp, DL.isB, DL.vTest, DL.vAnd, DL.vOr, DL.vNot, DL.vAndV, DL.vOrV, DL.vNotV, DL.vIf, DL.isNon, DL.vIsN, DL.vNotN, DL.vNil, DL.vCons, DL.vTup, DL.vLst, DL.rAdd, DL.rSub, DL.rMul, DL.rInt, DL.rDiv, DL.rMod, DL.rPow, DL.rShl, DL.rLt, DL.rLe, DL.rGt, DL.rGe, DL.vChain, DL.rIx, DL.vIx, DL.vNoPart, DL.isI, DL.vPart, DL.rSl, DL.vSl, DL.vCB, DL.rLen, DL.rAbs, DL.rMax2, DL.rMin2, DL.rIntOf, DL.rListOf, DL.rTupleOf, DL.vNext, DL.vSeq, DL.vBreak, DL.vCont, DL.vNever, DL.vFrz, DL.vBor, DL.vBorT, DL.vSet, DL.vDrop, DL.vRet, DL.vRetN, DL.vIfS, DL.vNew, DL.vOwn, DL.isL, DL.isIn, DL.isOwnL, DL.vApp, DL.vSto, DL.gV, DL.gT, DL.vRng1, DL.vRng2, DL.vYes, DL.vLc, DL.vCall, DL.vAttr, DL.vIsi, DL.vMk0, DL.vMkX, endsD, endsI, startI, isInsA, putD, capS, List.getElem?_cons_zero, List.getElem?_cons_succ, List.set_cons_zero, List.set_cons_succ, frz, frz1, wipeS, setN, noOwn, DL.isNon, Bool.not_true, Bool.not_false, List.length_cons, List.length_nil, List.map]
  refine attr_legs M ⟨trivial, mb _ (fun e => ?_) (fun e => ?_)⟩
  rotate_left
  · rw [hB1, hV1]
    exact hq
  have hm := of_decide_eq_true e
  have m8 := T1.l8
  rw [hA1]
  clear hA1 hB1
  refine seq_hide fun V2 hV2 => ?_
  dsimp only [DL.vAsg, DL.vFor, DL.vSeqI, DL.vNeg, DL.vPar, DL.vDct, DL.vEnum, DL.vRepL, DL.vRepr, DL.rRepr, DL.vIsiT, DL.vCallK, DL.vLenS, DL.vRaiX, DL.vRai0, DL.vFld, DL.rMulA, DL.rEqO, DL.rNeO, DL.vTryAs, DL.vCallW, DL.vCallH, DL.vBorL, DL.vStar, DL.vRev, DL.rRev, DL.vZip, DL.items2, DL.seqOf, DL.vAsgO, DL.vNilO, DL.vConsO, DL.vOwnO, DL.setO, DL.rSumA, DL.vBoxI, DL.vBoxS, DL.vCells, DL.vPopOr, DL.vScr, DL.vV, DL.vC, DL.vOp, DL.isB, DL.vTest, DL.vAnd, DL.vOr, DL.vNot, DL.vAndV, DL.vOrV, DL.vNotV, DL.vIf, DL.isNon, DL.vIsN, DL.vNotN, DL.vNil, DL.vCons, DL.vTup, DL.vLst, DL.rAdd, DL.rSub, DL.rMul, DL.rInt, DL.rDiv, DL.rMod, DL.rPow, DL.rShl, DL.rLt, DL.rLe, DL.rGt, DL.rGe, DL.vChain, DL.rIx, DL.vIx, DL.vNoPart, DL.isI, DL.vPart, DL.rSl, DL.vSl, DL.vCB, DL.rLen, DL.rAbs, DL.rMax2, DL.rMin2, DL.rIntOf, DL.rListOf, DL.rTupleOf, DL.vNext, DL.vSeq, DL.vBreak, DL.vCont, DL.vNever, DL.vFrz, DL.vBor, DL.vBorT, DL.vSet, DL.vDrop, DL.vRet, DL.vRetN, DL.vIfS, DL.vNew, DL.vOwn, DL.isL, DL.isIn, DL.isOwnL, DL.vApp, DL.vSto, DL.gV, DL.gT, DL.vRng1, DL.vRng2, DL.vYes, DL.vLc, DL.vCall, DL.vAttr, DL.vIsi, DL.vMk0, DL.vMkX, endsD, endsI, startI, isInsA, putD, capS, List.getElem?_cons_zero, List.getElem?_cons_succ, List.set_cons_zero, List.set_cons_succ, frz, frz1, wipeS, setN, noOwn, DL.isNon, Bool.not_true, Bool.not_false, List.length_cons, List.length_nil, List.map, cTake]
  refine attr_legs M ⟨rfl, _, rfl, hm, by omega, fun lg lg0 lg1 => ?_⟩
  obtain ⟨k, rfl⟩ : ∃ k : Nat, lg = k := ⟨lg.toNat, by omega⟩
  have hk : k < m := by omega
  rw [hV2]
  clear hV2
  refine for_hide fun W1 hW1 => ?_
  dsimp only [DL.vAsg, DL.vFor, DL.vSeqI, DL.vNeg, DL.vPar, DL.vDct, DL.vEnum, DL.vRepL, DL.vRepr, DL.rRepr, DL.vIsiT, DL.vCallK, DL.vLenS, DL.vRaiX, DL.vRai0, DL.vFld, DL.rMulA, DL.rEqO, DL.rNeO, DL.vTryAs, DL.vCallW, DL.vCallH, DL.vBorL, DL.vStar, DL.vRev, DL.rRev, DL.vZip, DL.items2, DL.seqOf, DL.vAsgO, DL.vNilO, DL.vConsO, DL.vOwnO, DL.setO, DL.rSumA, DL.vBoxI, DL.vBoxS, DL.vCells, DL.vPopOr, DL.vScr, DL.vV, DL.vC, DL.vOp, DL.isB, DL.vTest, DL.vAnd, DL.vOr, DL.vNot, DL.vAndV, DL.vOrV, DL.vNotV, DL.vIf, DL.isNon, DL.vIsN, DL.vNotN, DL.vNil, DL.vCons, DL.vTup, DL.vLst, DL.rAdd, DL.rSub, DL.rMul, DL.rInt, DL.rDiv, DL.rMod, DL.rPow, DL.rShl, DL.rLt, DL.rLe, DL.rGt, DL.rGe, DL.vChain, DL.rIx, DL.vIx, DL.vNoPart, DL.isI, DL.vPart, DL.rSl, DL.vSl, DL.vCB, DL.rLen, DL.rAbs, DL.rMax2, DL.rMin2, DL.rIntOf, DL.rListOf, DL.rTupleOf, DL.vNext, DL.vSeq, DL.vBreak, DL.vCont, DL.vNever, DL.vFrz, DL.vBor, DL.vBorT, DL.vSet, DL.vDrop, DL.vRet, DL.vRetN, DL.vIfS, DL.vNew, DL.vOwn, DL.isL, DL.isIn, DL.isOwnL, DL.vApp, DL.vSto, DL.gV, DL.gT, DL.vRng1, DL.vRng2, DL.vYes, DL.vLc, DL.vCall, DL.vAttr, DL.vIsi, DL.vMk0, DL.vMkX, endsD, endsI, startI, isInsA, putD, capS, List.getElem?_cons_zero, List.getElem?_cons_succ, List.set_cons_zero, List.set_cons_succ, frz, frz1, wipeS, setN, noOwn, DL.isNon, Bool.not_true, Bool.not_false, List.length_cons, List.length_nil, List.map]
  refine ⟨by decide, by decide, by decide, by decide, by decide, by decide, fun _ ss => ∃ x4 x5 x6 x7 : Sl, ss = [.v (.box 0), .v (ruleD C p (.int m) (intsL t1)), .v (ruleD C p (.int n) (intsL t2)), .v (ruleD C q (.int (0 : Nat)) (intsL [0])), x4, x5, x6, x7, .v (.int k)], ⟨_, _, _, _, rfl⟩, ?_, ?_⟩
  · rintro i d ss hd ⟨x4, x5, x6, x7, rfl⟩
    have key : ∃ (ck : Nat) (kind : Str) (pt : D) (c : Addr), d = .tup [.clo ck cs, .str kind, pt] ∧ isPt pt = true ∧ badK C kind c ∧ c ∈ [(C 2), (C 1)] ∧ ∀ (Q : D → Prop) (Qx : Err → Prop), Qx ⟨c, [("part", pt)]⟩ → apF tb cs ([.v (.box 0), .v (ruleD C p (.int m) (intsL t1)), .v (ruleD C p (.int n) (intsL t2)), .v (ruleD C q (.int (0 : Nat)) (intsL [0])), .v (.clo ck cs), .v (.str kind), .v pt, x7, .v (.int k)]) (.clo ck cs) [] Q Qx := by
      have h := List.mem_of_getElem? hd
      simp only [List.mem_cons, List.not_mem_nil, or_false] at h
      rcases h with rfl | rfl | rfl | rfl | rfl
      · refine ⟨13, "rule", .str "other", (C 2), rfl, rfl, .inl ⟨rfl, rfl⟩, by simp, fun Q Qx hx => ap_clo (congrFun etb _) ⟨rfl, ?_⟩⟩
        dsimp only [DL.vAsg, DL.vFor, DL.vSeqI, DL.vNeg, DL.vPar, DL.vDct, DL.vEnum, DL.vRepL, DL.vRepr, DL.rRepr, DL.vIsiT, DL.vCallK, DL.vLenS, DL.vRaiX, DL.vRai0, DL.vFld, DL.rMulA, DL.rEqO, DL.rNeO, DL.vTryAs, DL.vCallW, DL.vCallH, DL.vBorL, DL.vStar, DL.vRev, DL.rRev, DL.vZip, DL.items2, DL.seqOf, DL.vAsgO, DL.vNilO, DL.vConsO, DL.vOwnO, DL.setO, DL.rSumA, DL.vBoxI, DL.vBoxS, DL.vCells, DL.vPopOr, DL.vScr, DL.vV, DL.vC, DL.vOp, DL.isB, DL.vTest, DL.vAnd, DL.vOr, DL.vNot, DL.vAndV, DL.vOrV, DL.vNotV, DL.vIf, DL.isNon, DL.vIsN, DL.vNotN, DL.vNil, DL.vCons, DL.vTup, DL.vLst, DL.rAdd, DL.rSub, DL.rMul, DL.rInt, DL.rDiv, DL.rMod, DL.rPow, DL.rShl, DL.rLt, DL.rLe, DL.rGt, DL.rGe, DL.vChain, DL.rIx, DL.vIx, DL.vNoPart, DL.isI, DL.vPart, DL.rSl, DL.vSl, DL.vCB, DL.rLen, DL.rAbs, DL.rMax2, DL.rMin2, DL.rIntOf, DL.rListOf, DL.rTupleOf, DL.vNext, DL.vSeq, DL.vBreak, DL.vCont, DL.vNever, DL.vFrz, DL.vBor, DL.vBorT, DL.vSet, DL.vDrop, DL.vRet, DL.vRetN, DL.vIfS, DL.vNew, DL.vOwn, DL.isL, DL.isIn, DL.isOwnL, DL.vApp, DL.vSto, DL.gV, DL.gT, DL.vRng1, DL.vRng2, DL.vYes, DL.vLc, DL.vCall, DL.vAttr, DL.vIsi, DL.vMk0, DL.vMkX, endsD, endsI, startI, isInsA, putD, capS, List.getElem?_cons_zero, List.getElem?_cons_succ, List.set_cons_zero, List.set_cons_succ, frz, frz1, wipeS, setN, noOwn, DL.isNon, Bool.not_true, Bool.not_false, List.length_cons, List.length_nil, List.map, CloT.start]
        exact ⟨rfl, _, _, _, _, rfl, nr_yes (nr_yes (nl_yes hk (nt_ne hq2 hx)))⟩
      · refine ⟨14, "number", .str "place", (C 1), rfl, rfl, .inr ⟨rfl, rfl⟩, by simp, fun Q Qx hx => ap_clo (congrFun etb _) ⟨rfl, ?_⟩⟩
        dsimp only [DL.vAsg, DL.vFor, DL.vSeqI, DL.vNeg, DL.vPar, DL.vDct, DL.vEnum, DL.vRepL, DL.vRepr, DL.rRepr, DL.vIsiT, DL.vCallK, DL.vLenS, DL.vRaiX, DL.vRai0, DL.vFld, DL.rMulA, DL.rEqO, DL.rNeO, DL.vTryAs, DL.vCallW, DL.vCallH, DL.vBorL, DL.vStar, DL.vRev, DL.rRev, DL.vZip, DL.items2, DL.seqOf, DL.vAsgO, DL.vNilO, DL.vConsO, DL.vOwnO, DL.setO, DL.rSumA, DL.vBoxI, DL.vBoxS, DL.vCells, DL.vPopOr, DL.vScr, DL.vV, DL.vC, DL.vOp, DL.isB, DL.vTest, DL.vAnd, DL.vOr, DL.vNot, DL.vAndV, DL.vOrV, DL.vNotV, DL.vIf, DL.isNon, DL.vIsN, DL.vNotN, DL.vNil, DL.vCons, DL.vTup, DL.vLst, DL.rAdd, DL.rSub, DL.rMul, DL.rInt, DL.rDiv, DL.rMod, DL.rPow, DL.rShl, DL.rLt, DL.rLe, DL.rGt, DL.rGe, DL.vChain, DL.rIx, DL.vIx, DL.vNoPart, DL.isI, DL.vPart, DL.rSl, DL.vSl, DL.vCB, DL.rLen, DL.rAbs, DL.rMax2, DL.rMin2, DL.rIntOf, DL.rListOf, DL.rTupleOf, DL.vNext, DL.vSeq, DL.vBreak, DL.vCont, DL.vNever, DL.vFrz, DL.vBor, DL.vBorT, DL.vSet, DL.vDrop, DL.vRet, DL.vRetN, DL.vIfS, DL.vNew, DL.vOwn, DL.isL, DL.isIn, DL.isOwnL, DL.vApp, DL.vSto, DL.gV, DL.gT, DL.vRng1, DL.vRng2, DL.vYes, DL.vLc, DL.vCall, DL.vAttr, DL.vIsi, DL.vMk0, DL.vMkX, endsD, endsI, startI, isInsA, putD, capS, List.getElem?_cons_zero, List.getElem?_cons_succ, List.set_cons_zero, List.set_cons_succ, frz, frz1, wipeS, setN, noOwn, DL.isNon, Bool.not_true, Bool.not_false, List.length_cons, List.length_nil, List.map, CloT.start]
        exact attr_legs M ⟨rfl, _, _, _, _, rfl, nr_yes (nr_yes (nl_yes hk (nt_yes (nl_no rfl (betw_no (by omega)) hx))))⟩
      · refine ⟨15, "number", .str "place", (C 1), rfl, rfl, .inr ⟨rfl, rfl⟩, by simp, fun Q Qx hx => ap_clo (congrFun etb _) ⟨rfl, ?_⟩⟩
        dsimp only [DL.vAsg, DL.vFor, DL.vSeqI, DL.vNeg, DL.vPar, DL.vDct, DL.vEnum, DL.vRepL, DL.vRepr, DL.rRepr, DL.vIsiT, DL.vCallK, DL.vLenS, DL.vRaiX, DL.vRai0, DL.vFld, DL.rMulA, DL.rEqO, DL.rNeO, DL.vTryAs, DL.vCallW, DL.vCallH, DL.vBorL, DL.vStar, DL.vRev, DL.rRev, DL.vZip, DL.items2, DL.seqOf, DL.vAsgO, DL.vNilO, DL.vConsO, DL.vOwnO, DL.setO, DL.rSumA, DL.vBoxI, DL.vBoxS, DL.vCells, DL.vPopOr, DL.vScr, DL.vV, DL.vC, DL.vOp, DL.isB, DL.vTest, DL.vAnd, DL.vOr, DL.vNot, DL.vAndV, DL.vOrV, DL.vNotV, DL.vIf, DL.isNon, DL.vIsN, DL.vNotN, DL.vNil, DL.vCons, DL.vTup, DL.vLst, DL.rAdd, DL.rSub, DL.rMul, DL.rInt, DL.rDiv, DL.rMod, DL.rPow, DL.rShl, DL.rLt, DL.rLe, DL.rGt, DL.rGe, DL.vChain, DL.rIx, DL.vIx, DL.vNoPart, DL.isI, DL.vPart, DL.rSl, DL.vSl, DL.vCB, DL.rLen, DL.rAbs, DL.rMax2, DL.rMin2, DL.rIntOf, DL.rListOf, DL.rTupleOf, DL.vNext, DL.vSeq, DL.vBreak, DL.vCont, DL.vNever, DL.vFrz, DL.vBor, DL.vBorT, DL.vSet, DL.vDrop, DL.vRet, DL.vRetN, DL.vIfS, DL.vNew, DL.vOwn, DL.isL, DL.isIn, DL.isOwnL, DL.vApp, DL.vSto, DL.gV, DL.gT, DL.vRng1, DL.vRng2, DL.vYes, DL.vLc, DL.vCall, DL.vAttr, DL.vIsi, DL.vMk0, DL.vMkX, endsD, endsI, startI, isInsA, putD, capS, List.getElem?_cons_zero, List.getElem?_cons_succ, List.set_cons_zero, List.set_cons_succ, frz, frz1, wipeS, setN, noOwn, DL.isNon, Bool.not_true, Bool.not_false, List.length_cons, List.length_nil, List.map, CloT.start]
        exact ⟨rfl, _, _, _, _, rfl, nr_yes (nr_yes (nl_yes hk (nt_yes (nl_no rfl rfl hx))))⟩
      · refine ⟨16, "number", .str "other", (C 1), rfl, rfl, .inr ⟨rfl, rfl⟩, by simp, fun Q Qx hx => ap_clo (congrFun etb _) ⟨rfl, ?_⟩⟩
        dsimp only [DL.vAsg, DL.vFor, DL.vSeqI, DL.vNeg, DL.vPar, DL.vDct, DL.vEnum, DL.vRepL, DL.vRepr, DL.rRepr, DL.vIsiT, DL.vCallK, DL.vLenS, DL.vRaiX, DL.vRai0, DL.vFld, DL.rMulA, DL.rEqO, DL.rNeO, DL.vTryAs, DL.vCallW, DL.vCallH, DL.vBorL, DL.vStar, DL.vRev, DL.rRev, DL.vZip, DL.items2, DL.seqOf, DL.vAsgO, DL.vNilO, DL.vConsO, DL.vOwnO, DL.setO, DL.rSumA, DL.vBoxI, DL.vBoxS, DL.vCells, DL.vPopOr, DL.vScr, DL.vV, DL.vC, DL.vOp, DL.isB, DL.vTest, DL.vAnd, DL.vOr, DL.vNot, DL.vAndV, DL.vOrV, DL.vNotV, DL.vIf, DL.isNon, DL.vIsN, DL.vNotN, DL.vNil, DL.vCons, DL.vTup, DL.vLst, DL.rAdd, DL.rSub, DL.rMul, DL.rInt, DL.rDiv, DL.rMod, DL.rPow, DL.rShl, DL.rLt, DL.rLe, DL.rGt, DL.rGe, DL.vChain, DL.rIx, DL.vIx, DL.vNoPart, DL.isI, DL.vPart, DL.rSl, DL.vSl, DL.vCB, DL.rLen, DL.rAbs, DL.rMax2, DL.rMin2, DL.rIntOf, DL.rListOf, DL.rTupleOf, DL.vNext, DL.vSeq, DL.vBreak, DL.vCont, DL.vNever, DL.vFrz, DL.vBor, DL.vBorT, DL.vSet, DL.vDrop, DL.vRet, DL.vRetN, DL.vIfS, DL.vNew, DL.vOwn, DL.isL, DL.isIn, DL.isOwnL, DL.vApp, DL.vSto, DL.gV, DL.gT, DL.vRng1, DL.vRng2, DL.vYes, DL.vLc, DL.vCall, DL.vAttr, DL.vIsi, DL.vMk0, DL.vMkX, endsD, endsI, startI, isInsA, putD, capS, List.getElem?_cons_zero, List.getElem?_cons_succ, List.set_cons_zero, List.set_cons_succ, frz, frz1, wipeS, setN, noOwn, DL.isNon, Bool.not_true, Bool.not_false, List.length_cons, List.length_nil, List.map, CloT.start]
        exact ⟨rfl, closed_same T1 hk hx⟩
      · refine ⟨17, "number", .str "other", (C 1), rfl, rfl, .inr ⟨rfl, rfl⟩, by simp, fun Q Qx hx => ap_clo (congrFun etb _) ⟨rfl, ?_⟩⟩
        dsimp only [DL.vAsg, DL.vFor, DL.vSeqI, DL.vNeg, DL.vPar, DL.vDct, DL.vEnum, DL.vRepL, DL.vRepr, DL.rRepr, DL.vIsiT, DL.vCallK, DL.vLenS, DL.vRaiX, DL.vRai0, DL.vFld, DL.rMulA, DL.rEqO, DL.rNeO, DL.vTryAs, DL.vCallW, DL.vCallH, DL.vBorL, DL.vStar, DL.vRev, DL.rRev, DL.vZip, DL.items2, DL.seqOf, DL.vAsgO, DL.vNilO, DL.vConsO, DL.vOwnO, DL.setO, DL.rSumA, DL.vBoxI, DL.vBoxS, DL.vCells, DL.vPopOr, DL.vScr, DL.vV, DL.vC, DL.vOp, DL.isB, DL.vTest, DL.vAnd, DL.vOr, DL.vNot, DL.vAndV, DL.vOrV, DL.vNotV, DL.vIf, DL.isNon, DL.vIsN, DL.vNotN, DL.vNil, DL.vCons, DL.vTup, DL.vLst, DL.rAdd, DL.rSub, DL.rMul, DL.rInt, DL.rDiv, DL.rMod, DL.rPow, DL.rShl, DL.rLt, DL.rLe, DL.rGt, DL.rGe, DL.vChain, DL.rIx, DL.vIx, DL.vNoPart, DL.isI, DL.vPart, DL.rSl, DL.vSl, DL.vCB, DL.rLen, DL.rAbs, DL.rMax2, DL.rMin2, DL.rIntOf, DL.rListOf, DL.rTupleOf, DL.vNext, DL.vSeq, DL.vBreak, DL.vCont, DL.vNever, DL.vFrz, DL.vBor, DL.vBorT, DL.vSet, DL.vDrop, DL.vRet, DL.vRetN, DL.vIfS, DL.vNew, DL.vOwn, DL.isL, DL.isIn, DL.isOwnL, DL.vApp, DL.vSto, DL.gV, DL.gT, DL.vRng1, DL.vRng2, DL.vYes, DL.vLc, DL.vCall, DL.vAttr, DL.vIsi, DL.vMk0, DL.vMkX, endsD, endsI, startI, isInsA, putD, capS, List.getElem?_cons_zero, List.getElem?_cons_succ, List.set_cons_zero, List.set_cons_succ, frz, frz1, wipeS, setN, noOwn, DL.isNon, Bool.not_true, Bool.not_false, List.length_cons, List.length_nil, List.map, CloT.start]
        exact attr_legs M ⟨rfl, _, _, _, rfl, nr_yes (nl_yes hk (nl_no rfl (betw_no (by omega)) hx))⟩
    obtain ⟨ck, kind, pt, c, rfl, hpt, hbad, hmem, hap⟩ := key
    refine ⟨rfl, ?_⟩
    rw [hW1]
    refine seq_hide fun Va hVa => ?_
    dsimp only [DL.vAsg, DL.vFor, DL.vSeqI, DL.vNeg, DL.vPar, DL.vDct, DL.vEnum, DL.vRepL, DL.vRepr, DL.rRepr, DL.vIsiT, DL.vCallK, DL.vLenS, DL.vRaiX, DL.vRai0, DL.vFld, DL.rMulA, DL.rEqO, DL.rNeO, DL.vTryAs, DL.vCallW, DL.vCallH, DL.vBorL, DL.vStar, DL.vRev, DL.rRev, DL.vZip, DL.items2, DL.seqOf, DL.vAsgO, DL.vNilO, DL.vConsO, DL.vOwnO, DL.setO, DL.rSumA, DL.vBoxI, DL.vBoxS, DL.vCells, DL.vPopOr, DL.vScr, DL.vV, DL.vC, DL.vOp, DL.isB, DL.vTest, DL.vAnd, DL.vOr, DL.vNot, DL.vAndV, DL.vOrV, DL.vNotV, DL.vIf, DL.isNon, DL.vIsN, DL.vNotN, DL.vNil, DL.vCons, DL.vTup, DL.vLst, DL.rAdd, DL.rSub, DL.rMul, DL.rInt, DL.rDiv, DL.rMod, DL.rPow, DL.rShl, DL.rLt, DL.rLe, DL.rGt, DL.rGe, DL.vChain, DL.rIx, DL.vIx, DL.vNoPart, DL.isI, DL.vPart, DL.rSl, DL.vSl, DL.vCB, DL.rLen, DL.rAbs, DL.rMax2, DL.rMin2, DL.rIntOf, DL.rListOf, DL.rTupleOf, DL.vNext, DL.vSeq, DL.vBreak, DL.vCont, DL.vNever, DL.vFrz, DL.vBor, DL.vBorT, DL.vSet, DL.vDrop, DL.vRet, DL.vRetN, DL.vIfS, DL.vNew, DL.vOwn, DL.isL, DL.isIn, DL.isOwnL, DL.vApp, DL.vSto, DL.gV, DL.gT, DL.vRng1, DL.vRng2, DL.vYes, DL.vLc, DL.vCall, DL.vAttr, DL.vIsi, DL.vMk0, DL.vMkX, endsD, endsI, startI, isInsA, putD, capS, List.getElem?_cons_zero, List.getElem?_cons_succ, List.set_cons_zero, List.set_cons_succ, frz, frz1, wipeS, setN, noOwn, DL.isNon, Bool.not_true, Bool.not_false, List.length_cons, List.length_nil, List.map]
    refine ⟨rfl, _, rfl, rfl, hap _ _ (caught_yes (exc_of hmem) ?_)⟩
    rw [hVa]
    dsimp only [DL.vAsg, DL.vFor, DL.vSeqI, DL.vNeg, DL.vPar, DL.vDct, DL.vEnum, DL.vRepL, DL.vRepr, DL.rRepr, DL.vIsiT, DL.vCallK, DL.vLenS, DL.vRaiX, DL.vRai0, DL.vFld, DL.rMulA, DL.rEqO, DL.rNeO, DL.vTryAs, DL.vCallW, DL.vCallH, DL.vBorL, DL.vStar, DL.vRev, DL.rRev, DL.vZip, DL.items2, DL.seqOf, DL.vAsgO, DL.vNilO, DL.vConsO, DL.vOwnO, DL.setO, DL.rSumA, DL.vBoxI, DL.vBoxS, DL.vCells, DL.vPopOr, DL.vScr, DL.vV, DL.vC, DL.vOp, DL.isB, DL.vTest, DL.vAnd, DL.vOr, DL.vNot, DL.vAndV, DL.vOrV, DL.vNotV, DL.vIf, DL.isNon, DL.vIsN, DL.vNotN, DL.vNil, DL.vCons, DL.vTup, DL.vLst, DL.rAdd, DL.rSub, DL.rMul, DL.rInt, DL.rDiv, DL.rMod, DL.rPow, DL.rShl, DL.rLt, DL.rLe, DL.rGt, DL.rGe, DL.vChain, DL.rIx, DL.vIx, DL.vNoPart, DL.isI, DL.vPart, DL.rSl, DL.vSl, DL.vCB, DL.rLen, DL.rAbs, DL.rMax2, DL.rMin2, DL.rIntOf, DL.rListOf, DL.rTupleOf, DL.vNext, DL.vSeq, DL.vBreak, DL.vCont, DL.vNever, DL.vFrz, DL.vBor, DL.vBorT, DL.vSet, DL.vDrop, DL.vRet, DL.vRetN, DL.vIfS, DL.vNew, DL.vOwn, DL.isL, DL.isIn, DL.isOwnL, DL.vApp, DL.vSto, DL.gV, DL.gT, DL.vRng1, DL.vRng2, DL.vYes, DL.vLc, DL.vCall, DL.vAttr, DL.vIsi, DL.vMk0, DL.vMkX, endsD, endsI, startI, isInsA, putD, capS, List.getElem?_cons_zero, List.getElem?_cons_succ, List.set_cons_zero, List.set_cons_succ, frz, frz1, wipeS, setN, noOwn, DL.isNon, Bool.not_true, Bool.not_false, List.length_cons, List.length_nil, List.map]
    refine ⟨rfl, c, _, kind, rfl, hbad, ?_⟩
    dsimp only [DL.vAsg, DL.vFor, DL.vSeqI, DL.vNeg, DL.vPar, DL.vDct, DL.vEnum, DL.vRepL, DL.vRepr, DL.rRepr, DL.vIsiT, DL.vCallK, DL.vLenS, DL.vRaiX, DL.vRai0, DL.vFld, DL.rMulA, DL.rEqO, DL.rNeO, DL.vTryAs, DL.vCallW, DL.vCallH, DL.vBorL, DL.vStar, DL.vRev, DL.rRev, DL.vZip, DL.items2, DL.seqOf, DL.vAsgO, DL.vNilO, DL.vConsO, DL.vOwnO, DL.setO, DL.rSumA, DL.vBoxI, DL.vBoxS, DL.vCells, DL.vPopOr, DL.vScr, DL.vV, DL.vC, DL.vOp, DL.isB, DL.vTest, DL.vAnd, DL.vOr, DL.vNot, DL.vAndV, DL.vOrV, DL.vNotV, DL.vIf, DL.isNon, DL.vIsN, DL.vNotN, DL.vNil, DL.vCons, DL.vTup, DL.vLst, DL.rAdd, DL.rSub, DL.rMul, DL.rInt, DL.rDiv, DL.rMod, DL.rPow, DL.rShl, DL.rLt, DL.rLe, DL.rGt, DL.rGe, DL.vChain, DL.rIx, DL.vIx, DL.vNoPart, DL.isI, DL.vPart, DL.rSl, DL.vSl, DL.vCB, DL.rLen, DL.rAbs, DL.rMax2, DL.rMin2, DL.rIntOf, DL.rListOf, DL.rTupleOf, DL.vNext, DL.vSeq, DL.vBreak, DL.vCont, DL.vNever, DL.vFrz, DL.vBor, DL.vBorT, DL.vSet, DL.vDrop, DL.vRet, DL.vRetN, DL.vIfS, DL.vNew, DL.vOwn, DL.isL, DL.isIn, DL.isOwnL, DL.vApp, DL.vSto, DL.gV, DL.gT, DL.vRng1, DL.vRng2, DL.vYes, DL.vLc, DL.vCall, DL.vAttr, DL.vIsi, DL.vMk0, DL.vMkX, endsD, endsI, startI, isInsA, putD, capS, List.getElem?_cons_zero, List.getElem?_cons_succ, List.set_cons_zero, List.set_cons_succ, frz, frz1, wipeS, setN, noOwn, DL.isNon, Bool.not_true, Bool.not_false, List.length_cons, List.length_nil, List.map]
    refine ⟨exc_of hmem, part_of M hmem, some1 (ne_part hpt ?_)⟩
    exact ⟨_, _, _, _, rfl⟩
  rintro ss ⟨x4, x5, x6, x7, rfl⟩
  rw [hV1]
  exact hq
theorem attr_most {C0 : Addr} (h : C0 = (C 3)) (M : MC Pr w K mg base C) {d : D} {Q : D → Prop} (q : Q d) : vAttr (PP K C tbs) "most" (vC (.exc C0 [("most", d)])) [] Q (fun _ _ => False) := by
  subst h
  dsimp only [DL.vAttr, DL.vC]
  exact ⟨excP_in (by decide), M.a_TooMany_most, some1 q⟩
theorem tab_rep {p : Int} {k N : Nat} (hp : primeI p = true) (h8 : k ≤ 8) (hN : N = 2 ^ k) : Tab p k (List.replicate N 1) := ⟨hp, h8, by rw [List.length_replicate, hN], fun x hx => by
  have := prime_in hp
  rw [(List.mem_replicate.mp hx).2]
  omega⟩
theorem wide_joined {p : Int} (hp : 3 ≤ p) : tabJoined p 8 2 (tabLed 8 (turnL 8 (3 : Nat)) (List.replicate 256 1)) (tabLed 2 (turnL 2 (0 : Nat)) [1, 0, 0, 1]) = List.replicate 256 1 := by
  have e4 : tabLed 2 (turnL 2 (0 : Nat)) [1, 0, 0, 1] = [1, 0, 0, 1] := by decide +kernel
  have e3 : ∀ x : Nat, x < 2 ^ 8 → (tabLed 8 (turnL 8 (3 : Nat)) (List.replicate 256 1)).getD x 0 = 1 := fun x hx => by
    rw [led_get hx, List.getD_eq_getElem?_getD, List.getElem?_replicate, if_pos]
    · rfl
    · have h1 := sig_in (legs := 8) (i := x) (ls := turnL 8 (3 : Nat))
      have : ((2 ^ 8 : Nat) : Int) = 256 := rfl
      omega
  rw [e4]
  refine List.ext_getElem (by unfold tabJoined; rw [List.length_map, List.length_range, List.length_replicate]) fun i h1 h2 => ?_
  rw [List.length_replicate] at h2
  rw [List.getElem_replicate]
  simp only [tabJoined, List.getElem_map, List.getElem_range]
  rw [e3 _ (by omega), e3 _ (by omega)]
  have : i % 2 = 0 ∨ i % 2 = 1 := by omega
  rcases this with h | h
  · rw [show i % 2 ^ (2 - 1) = 0 from h]
    show (1 * 1 + 1 * 0 : Int) % p = 1
    exact Int.emod_eq_of_lt (by decide) (by omega)
  · rw [show i % 2 ^ (2 - 1) = 1 from h]
    show (1 * 0 + 1 * 1 : Int) % p = 1
    exact Int.emod_eq_of_lt (by decide) (by omega)
def lawI : SS → Prop := fun ss => ∃ x2 x3 x4 x5 x6 x7 x8 x9 x10 x11 x12 x13 x14 x15 x16 x17 x18 x19 x20 x21 : Sl, (∀ d, x10 ≠ .own d) ∧ ss = [.v (.box 7), .v (.box 0), x2, x3, x4, x5, x6, x7, x8, x9, x10, x11, x12, x13, x14, x15, x16, x17, x18, x19, x20, x21]
theorem index_nn {bs : List Int} (h : ∀ x ∈ bs, 0 ≤ x ∧ x ≤ 1) : 0 ≤ indexOf bs := (idx_lt bs 0 h (by decide)).1
theorem intsL_app (xs ys : List Int) : intsL xs ++ intsL ys = intsL (xs ++ ys) := (List.map_append ..).symm
theorem mem_take01 {n : Nat} {k : Int} {a : Nat} : ∀ x ∈ (bitsAt n k).take a, 0 ≤ x ∧ x ≤ 1 := fun x hx => bits01 (List.mem_of_mem_take hx)
theorem mem_drop01 {n : Nat} {k : Int} {a : Nat} : ∀ x ∈ (bitsAt n k).drop a, 0 ≤ x ∧ x ≤ 1 := fun x hx => bits01 (List.mem_of_mem_drop hx)
theorem app01 {xs ys : List Int} (h1 : ∀ x ∈ xs, 0 ≤ x ∧ x ≤ 1) (h2 : ∀ x ∈ ys, 0 ≤ x ∧ x ≤ 1) : ∀ x ∈ xs ++ ys, 0 ≤ x ∧ x ≤ 1 := fun x hx => (List.mem_append.mp hx).elim (h1 x) (h2 x)
theorem dIx_eq {m l s k : Nat} : indexOf ((bitsAt m (k : Int)).take l ++ ((bitsAt m (k : Int)).drop (l + 1)).take (s - (l + 1)) ++ (bitsAt m (k : Int)).drop (s + 1)) = (dIx m l s k : Nat) := by
  unfold dIx
  rw [Int.toNat_of_nonneg]
  exact index_nn (app01 (app01 mem_take01 fun x hx => mem_drop01 x (List.mem_of_mem_take hx)) mem_drop01)
theorem intsL_set {ns : List Int} {j : Nat} {x : Int} : (intsL ns).set j (.int x) = intsL (ns.set j x) := by
  unfold intsL
  rw [List.map_set]
theorem at_get {ns : List Int} {k : Nat} (h : k < ns.length) : L2.atI (intsL ns) (k : Int) = some (.int (ns.getD k 0)) := by
  have := atI_getD (ns := ns) (i := (k : Int)) (by omega) (by omega)
  rw [Int.toNat_natCast] at this
  exact atI_ints this
theorem jIx_eq {m n l o k j : Nat} (ho : o < n) : indexOf ((bitsAt m (k : Int)).drop (l + 1) ++ (bitsAt m (k : Int)).take l ++ (bitsAt n (j : Int)).drop (o + 1) ++ (bitsAt n (j : Int)).take o) = ((aIx m l k * 2 ^ (n - 1) + aIx n o j : Nat) : Int) := by
  have e : ∀ {m l k : Nat}, indexOf ((bitsAt m (k : Int)).drop (l + 1) ++ (bitsAt m (k : Int)).take l) = (aIx m l k : Nat) := fun {m l k} => by
    unfold aIx
    rw [Int.toNat_of_nonneg]
    exact index_nn (app01 mem_drop01 mem_take01)
  have hl : ((bitsAt n (j : Int)).drop (o + 1) ++ (bitsAt n (j : Int)).take o).length = n - 1 := by
    rw [List.length_append, List.length_drop, List.length_take, bitsAt_len]
    omega
  rw [List.append_assoc, index_app, e, e, hl]
  push_cast
  rfl
theorem ixN_nat {k n : Nat} (h : k < n) : ixN n (k : Int) = some k := by
  unfold ixN
  rw [if_pos (by omega), if_pos (by omega), Int.toNat_natCast]
theorem cut_mid {bs : List Int} {a b : Nat} (ha : a ≤ bs.length) (hb : b ≤ bs.length) : DL.cutD (intsL bs) (some (a : Int)) (some (b : Int)) = intsL ((bs.drop a).take (b - a)) := by
  unfold DL.cutD
  rw [HT.sIx_nat, HT.sIx_nat, intsL_len, Nat.min_eq_left ha, Nat.min_eq_left hb]
  unfold intsL
  rw [← List.map_drop, ← List.map_take]
theorem rep_one {k : Nat} {x : Int} : List.replicate k (D.int x) = intsL (List.replicate k x) := by
  unfold intsL
  rw [List.map_replicate]

end K03

set_option maxRecDepth 100000
set_option maxHeartbeats 8000000
namespace K03
open PySem PySem.Spec PyProof.Rows L2 LamX NdefX DLX DL
variable {Pr : Program} {w : World} {K : PySem.W.Frag} {mg : Str → Option Value} {base : Heap} {P : Gl0}
variable {C tbs : Nat → Addr}
theorem sc_law : FnScope ["script", "draw", "turn", "prime_here", "many", "more", "first", "second", "rule", "other", "k", "due", "leg", "spot", "bits", "index", "j", "one", "two", "wide", "work", "caught"] ["script"] (defScope s_law) := ⟨rfl, rfl, rfl, by decide +kernel, rfl, by decide +kernel, by decide +kernel⟩
theorem ok_law {f : Addr} {fd : FuncData} (F : L2.Fun K "law" "law" s_law f fd) (M : MC Pr w K mg base C) (A_Rule : FM Pr w K mg base "Rule" (C 4) 4 ["self", "prime", "table"] (spI (PP K C tbs) (fun _ => True) 2 (C 4) (c_Rule C))) (F__law_begun : FD Pr w K mg base "_law_begun" 2 ["script"] (spBegun K (PP K C tbs))) (F__law_bits : FD Pr w K mg base "_law_bits" 1 ["number", "many"] (spD (PP K C tbs) (fun _ => True) 2 (c__law_bits C))) (F__law_caught : FD Pr w K mg base "_law_caught" 11 ["work"] (spH Pr w K mg base (PP K C tbs) (gpD K) 1 10 (cCaught (excP C)))) (F__law_is_rule : FD Pr w K mg base "_law_is_rule" 2 ["thing", "prime_here", "table_here"] (spD (PP K C tbs) (fun _ => True) 3 (c__law_is_rule C))) (F__law_number : FD Pr w K mg base "_law_number" 1 ["bits"] (spD (PP K C tbs) (fun _ => True) 1 (c__law_number C))) (F__law_numbers : FD Pr w K mg base "_law_numbers" 5 ["draw", "prime_here", "many"] (spD (PP K C tbs) (gpD K) 3 (c__law_numbers C))) (F__law_prime : FD Pr w K mg base "_law_prime" 5 ["draw"] (spD (PP K C tbs) (gpD K) 1 (c__law_prime C))) (F__law_refused : FD Pr w K mg base "_law_refused" 12 ["draw", "rule", "other"] (spD (PP K C tbs) (gpD K) 3 (c__law_refused C))) (F__law_take : FD Pr w K mg base "_law_take" 3 ["draw", "amount"] (spD (PP K C tbs) (gpD K) 2 cTake)) (F_beside : FD Pr w K mg base "beside" 7 ["rule", "other"] (spD (PP K C tbs) (fun _ => True) 2 (c_beside C))) (F_closed : FD Pr w K mg base "closed" 7 ["rule", "leg", "other"] (spD (PP K C tbs) (fun _ => True) 3 (c_closed C))) (F_joined : FD Pr w K mg base "joined" 9 ["rule", "leg", "other", "place"] (spD (PP K C tbs) (fun _ => True) 4 (c_joined C))) (F_turned : FD Pr w K mg base "turned" 8 ["rule", "many"] (spD (PP K C tbs) (fun _ => True) 2 (c_turned C))) (K_beside : FDK Pr w K mg base "beside" 7 ["rule", "other"] ["other", "rule"] [1, 0] (spD (PP K C tbs) (fun _ => True) 2 (c_beside C))) (K_joined : FDK Pr w K mg base "joined" 9 ["rule", "leg", "other", "place"] ["place", "other", "leg", "rule"] [3, 2, 1, 0] (spD (PP K C tbs) (fun _ => True) 4 (c_joined C))) (K_closed : FDK Pr w K mg base "closed" 7 ["rule", "leg", "other"] ["other", "leg", "rule"] [2, 1, 0] (spD (PP K C tbs) (fun _ => True) 3 (c_closed C))) {cA : Addr} (LT : LTab base mg (PP K C tbs) cA (nm_law)) (hfc : fd.code = .ref cA) (ME : ∀ c0 c, eqs C c0 = some c → EqC Pr w K mg base (PP K C tbs) (fun _ => True) 1 c0 c) : FnG Pr w K mg base (L2.CX Pr w) 13 f fd ["script"] (spLaw K (PP K C tbs)) := by
  have nd := sc_law.nd
  have T := txt (tbs := tbs) M
  have CD0 := (show CloD Pr w K mg base (PP K C tbs) (gpD K) 9 (defScope s_law) ["script", "draw", "turn", "prime_here", "many", "more", "first", "second", "rule", "other", "k", "due", "leg", "spot", "bits", "index", "j", "one", "two", "wide", "work", "caught"] _ from (CloD.lam (N' := ["wide", "prime_here"]) (ps := []) (fr := ["wide", "prime_here"]) (js := [19, 3]) (n := 0) (m := 0) 18 rfl rfl (nscopeC_by (by decide +kernel)) (by decide +kernel) rfl (fun _ _ _ _ _ us hl => match us, hl with | [], _ => rfl) (fun g hgp cl c' f A outer s H E hr hgd => (d_callF F_beside (hr.mono (by decide)) hgd rfl trivial (a_cons (d_var 0) (a_cons (d_make A_Rule (hr.mono (by decide)) hgd rfl trivial (a_cons (d_var 1) (a_cons (d_lst (a_cons d_int (a_cons d_int a_nil))) a_nil))) a_nil)))) (CloD.lam (N' := ["wide", "draw", "prime_here"]) (ps := []) (fr := ["wide", "draw", "prime_here"]) (js := [19, 1, 3]) (n := 0) (m := 0) 19 rfl rfl (nscopeC_by (by decide +kernel)) (by decide +kernel) rfl (fun _ _ _ _ _ us hl => match us, hl with | [], _ => rfl) (fun g hgp cl c' f A outer s H E hr hgd => (d_callF F_joined (hr.mono (by decide)) hgd rfl trivial (a_cons (d_var 0) (a_cons (d_callF F__law_take (hr.mono (by decide)) hgd rfl hgp (a_cons (d_var 1) (a_cons d_int a_nil))) (a_cons (d_make A_Rule (hr.mono (by decide)) hgd rfl trivial (a_cons (d_var 2) (a_cons (d_op o_mulA (d_lst (a_cons d_int a_nil)) d_int) a_nil))) (a_cons d_int a_nil)))))) CloD.nil)))
  obtain ⟨tb, CD, etb⟩ := cloD_opened CD0
  refine fnG_ofC (k := 12) F sc_law (fun vs H Q E ⟨a, ns, e, _⟩ => by rw [e]; rfl) fun cdv A outer s H vs Q E hcd hr hgd hsp => ?_
  obtain ⟨a, ns, rfl, hS, hlen, hT, hq⟩ := hsp
  obtain ⟨cs, hcs⟩ : ∃ cs, (envOfC "law" (defScope s_law) s.heap.objs.size f cdv).cells = cs := ⟨_, rfl⟩
  refine ⟨_, pss_cons (ps_set (i := 1) nd rfl (by first | exact Or.inl rfl | exact Or.inr rfl) (pe_callF F__law_begun (hr.mono (by decide)) hgd rfl (pa_cons (pv 0) pa_nil))) (pss_box (P := PP K C tbs) fun g hgp => (ss_cons (s_for (passes_of rfl) rfl (i_rng1 rfl M.b_range (d_op o_add d_int (d_callB (c_min2 rfl) rfl M.b_min (by first | rfl | decide +kernel) (a_cons (d_lenS 0 hgp rfl M.b_len) (a_cons d_int a_nil))))) (g_name 2 nd) (ss_cons (s_asgO rfl (ngs_cons 3 nd (ngs_cons 4 nd (ngs_cons 5 nd ngs_nil))) (ao_cons (d_callF F__law_prime (hr.mono (by decide)) hgd rfl hgp (a_cons (d_var 1) a_nil)) (ao_cons (d_callF F__law_take (hr.mono (by decide)) hgd rfl hgp (a_cons (d_var 1) (a_cons d_int a_nil))) (ao_cons (d_callF F__law_take (hr.mono (by decide)) hgd rfl hgp (a_cons (d_var 1) (a_cons d_int a_nil))) ao_nil)))) (ss_cons (s_asg (d_tup (a_cons (d_callF F__law_numbers (hr.mono (by decide)) hgd rfl hgp (a_cons (d_var 1) (a_cons (d_var 3) (a_cons (d_op o_shl d_int (d_var 4)) a_nil)))) (a_cons (d_callF F__law_numbers (hr.mono (by decide)) hgd rfl hgp (a_cons (d_var 1) (a_cons (d_var 3) (a_cons (d_op o_shl d_int (d_var 5)) a_nil)))) a_nil))) (g_two 6 7 rfl nd)) (ss_cons (s_par (i := 8) (j := 9) rfl nd (a_cons (d_make A_Rule (hr.mono (by decide)) hgd rfl trivial (a_cons (d_var 3) (a_cons (d_var 6) a_nil))) (a_cons (d_make A_Rule (hr.mono (by decide)) hgd rfl trivial (a_cons (d_var 3) (a_cons (d_var 7) a_nil))) a_nil))) (ss_cons (s_ownA (na_lc 11 (own := [("k", 10)]) rfl nd (i_rng1 rfl M.b_range (d_op o_mulA (d_callB c_len rfl M.b_len (by first | rfl | decide +kernel) (a_cons (d_var 6) a_nil)) (d_callB c_len rfl M.b_len (by first | rfl | decide +kernel) (a_cons (d_var 7) a_nil)))) (blkOk_by (by rfl)) (fun _ _ _ _ _ => (g_name 10 nd (js := [10]))) (fun _ _ _ _ _ => ts_nil) (fun _ _ _ _ _ => (d_op o_mod (d_op o_mulA (d_ix (d_var 6) (d_op o_div (d_var 10) (d_callB c_len rfl M.b_len (by first | rfl | decide +kernel) (a_cons (d_var 7) a_nil)))) (d_ix (d_var 7) (d_op o_mod (d_var 10) (d_callB c_len rfl M.b_len (by first | rfl | decide +kernel) (a_cons (d_var 7) a_nil))))) (d_var 3))))) (ss_cons (s_if (t_bor [11] (DW.dt (w_or (t_not (t_val (d_callF F__law_is_rule (hr.mono (by decide)) hgd rfl trivial (a_cons (d_callF F_beside (hr.mono (by decide)) hgd rfl trivial (a_cons (d_var 8) (a_cons (d_var 9) a_nil))) (a_cons (d_var 3) (a_cons (d_var 11) a_nil)))))) (w_or1 (t_cmp (o_neO T ME (hr.mono (by decide)) hgd trivial) (d_callKF K_beside (hr.mono (by decide)) hgd rfl trivial (k_cons (d_var 9) (k_cons (d_var 8) k_nil))) (d_make A_Rule (hr.mono (by decide)) hgd rfl trivial (a_cons (d_var 3) (a_cons (d_var 11) a_nil))) (by rfl)))))) (ss_one (s_ret d_bl)) ss_nil) (ss_cons (s_for (passes_of rfl) rfl (i_rng1 rfl M.b_range (d_var 4)) (g_name 12 nd) (ss_one (s_for (passes_of rfl) rfl (i_rng2 rfl M.b_range (d_op o_add (d_var 12) d_int) (d_var 4)) (g_name 13 nd) (ss_cons (s_own 11 nd (n_rep (d_lst (a_cons d_int a_nil)) (d_op o_shl d_int (d_op o_sub (d_var 4) d_int)))) (ss_cons (s_for (passes_of rfl) rfl (i_rng1 rfl M.b_range (d_op o_shl d_int (d_var 4))) (g_name 10 nd) (ss_cons (s_set 14 nd (d_callF F__law_bits (hr.mono (by decide)) hgd rfl trivial (a_cons (d_var 10) (a_cons (d_var 4) a_nil)))) (ss_one (s_if (t_cmp (o_eqO T ME (hr.mono (by decide)) hgd trivial) (d_ix (d_var 14) (d_var 12)) (d_ix (d_var 14) (d_var 13)) (by rfl)) (ss_cons (s_set 15 nd (d_callF F__law_number (hr.mono (by decide)) hgd rfl trivial (a_cons (d_op o_add (d_op o_add (d_slice (d_var 14) do_none (do_some (d_var 12))) (d_slice (d_var 14) (do_some (d_op o_add (d_var 12) d_int)) (do_some (d_var 13)))) (d_slice (d_var 14) (do_some (d_op o_add (d_var 13) d_int)) do_none)) a_nil))) (ss_one (s_sto 11 (d_var 15) (d_borL [11] (d_op o_mod (d_op o_add (d_ix (d_var 11) (d_var 15)) (d_ix (d_var 6) (d_var 10))) (d_var 3))) (fun te tk h1 h2 => ps_asg h1 (pg_sub (pv _) h2 set_list))))) ss_nil)))) (ss_one (s_if (t_bor [11] (DW.dt (w_or (t_not (t_val (d_callF F__law_is_rule (hr.mono (by decide)) hgd rfl trivial (a_cons (d_callF F_closed (hr.mono (by decide)) hgd rfl trivial (a_cons (d_var 8) (a_cons (d_var 12) (a_cons (d_var 13) a_nil)))) (a_cons (d_var 3) (a_cons (d_var 11) a_nil)))))) (w_or1 (t_cmp (o_neO T ME (hr.mono (by decide)) hgd trivial) (d_callKF K_closed (hr.mono (by decide)) hgd rfl trivial (k_cons (d_var 12) (k_cons (d_var 13) (k_cons (d_var 8) k_nil)))) (d_make A_Rule (hr.mono (by decide)) hgd rfl trivial (a_cons (d_var 3) (a_cons (d_var 11) a_nil))) (by rfl)))))) (ss_one (s_ret d_bl)) ss_nil))))))) (ss_cons (s_if (DW.dt (w_and (t_cmp o_gt (d_var 4) d_int (by rfl)) (w_and1 (t_cmp o_gt (d_var 5) d_int (by rfl))))) (ss_cons (s_par3O (i := 12) (j := 13) (l := 11) rfl nd (ao_cons (d_callF F__law_take (hr.mono (by decide)) hgd rfl hgp (a_cons (d_var 1) (a_cons (d_var 4) a_nil))) (ao_cons (d_callF F__law_take (hr.mono (by decide)) hgd rfl hgp (a_cons (d_var 1) (a_cons (d_var 5) a_nil))) (ao_own (n_rep (d_lst (a_cons d_int a_nil)) (d_op o_shl d_int (d_op o_sub (d_op o_add (d_var 4) (d_var 5)) d_int))) ao_nil)))) (ss_cons (s_for (passes_of rfl) rfl (i_rng1 rfl M.b_range (d_op o_shl d_int (d_var 4))) (g_name 10 nd) (ss_one (s_for (passes_of rfl) rfl (i_rng1 rfl M.b_range (d_op o_shl d_int (d_var 5))) (g_name 16 nd) (ss_cons (s_par (i := 17) (j := 18) rfl nd (a_cons (d_callF F__law_bits (hr.mono (by decide)) hgd rfl trivial (a_cons (d_var 10) (a_cons (d_var 4) a_nil))) (a_cons (d_callF F__law_bits (hr.mono (by decide)) hgd rfl trivial (a_cons (d_var 16) (a_cons (d_var 5) a_nil))) a_nil))) (ss_one (s_if (t_cmp (o_eqO T ME (hr.mono (by decide)) hgd trivial) (d_ix (d_var 17) (d_var 12)) (d_ix (d_var 18) (d_var 13)) (by rfl)) (ss_cons (s_set 15 nd (d_callF F__law_number (hr.mono (by decide)) hgd rfl trivial (a_cons (d_op o_add (d_op o_add (d_op o_add (d_slice (d_var 17) (do_some (d_op o_add (d_var 12) d_int)) do_none) (d_slice (d_var 17) do_none (do_some (d_var 12)))) (d_slice (d_var 18) (do_some (d_op o_add (d_var 13) d_int)) do_none)) (d_slice (d_var 18) do_none (do_some (d_var 13)))) a_nil))) (ss_one (s_sto 11 (d_var 15) (d_borL [11] (d_op o_mod (d_op o_add (d_ix (d_var 11) (d_var 15)) (d_op o_mulA (d_ix (d_var 6) (d_var 10)) (d_ix (d_var 7) (d_var 16)))) (d_var 3))) (fun te tk h1 h2 => ps_asg h1 (pg_sub (pv _) h2 set_list))))) ss_nil)))))) (ss_cons (s_if (t_bor [11] (DW.dt (w_or (t_not (t_val (d_callF F__law_is_rule (hr.mono (by decide)) hgd rfl trivial (a_cons (d_callF F_joined (hr.mono (by decide)) hgd rfl trivial (a_cons (d_var 8) (a_cons (d_var 12) (a_cons (d_var 9) (a_cons (d_var 13) a_nil))))) (a_cons (d_var 3) (a_cons (d_var 11) a_nil)))))) (w_or1 (t_cmp (o_neO T ME (hr.mono (by decide)) hgd trivial) (d_callKF K_joined (hr.mono (by decide)) hgd rfl trivial (k_cons (d_var 13) (k_cons (d_var 9) (k_cons (d_var 12) (k_cons (d_var 8) k_nil))))) (d_make A_Rule (hr.mono (by decide)) hgd rfl trivial (a_cons (d_var 3) (a_cons (d_var 11) a_nil))) (by rfl)))))) (ss_one (s_ret d_bl)) ss_nil) (ss_one (s_if (t_bor [11] (t_cmp (o_neO T ME (hr.mono (by decide)) hgd trivial) (d_callF F_closed (hr.mono (by decide)) hgd rfl trivial (a_cons (d_callF F_beside (hr.mono (by decide)) hgd rfl trivial (a_cons (d_callF F_turned (hr.mono (by decide)) hgd rfl trivial (a_cons (d_var 8) (a_cons (d_op o_mod (d_op o_add (d_var 12) d_int) (d_var 4)) a_nil))) (a_cons (d_callF F_turned (hr.mono (by decide)) hgd rfl trivial (a_cons (d_var 9) (a_cons (d_var 13) a_nil))) a_nil))) (a_cons (d_op o_sub (d_var 4) d_int) (a_cons (d_var 4) a_nil)))) (d_make A_Rule (hr.mono (by decide)) hgd rfl trivial (a_cons (d_var 3) (a_cons (d_var 11) a_nil))) (by rfl))) (ss_one (s_ret d_bl)) ss_nil))))) ss_nil) (ss_cons (s_set 19 nd (d_make A_Rule (hr.mono (by decide)) hgd rfl trivial (a_cons (d_var 3) (a_cons (d_op o_mulA (d_lst (a_cons d_int a_nil)) d_int) a_nil)))) (ss_cons (s_for (passes_of rfl) rfl (i_seq (d_lst (a_cons (d_lam 18 hcs (LT.lam (hcd.symm.trans hfc)) rfl rfl (ndef_free (sc := defScope s_law) (fr := ["wide", "prime_here"]) (by decide +kernel))) (a_cons (d_lam 19 hcs (LT.lam (hcd.symm.trans hfc)) rfl rfl (ndef_free (sc := defScope s_law) (fr := ["wide", "draw", "prime_here"]) (by decide +kernel))) a_nil)))) (g_name 20 nd) (ss_cons (s_set 21 nd (d_callH hcs F__law_caught CD.frB (by decide) (hr.mono (by decide)) hgd rfl hgp (a_cons (d_var 20) a_nil))) (ss_one (s_if (DW.dt (w_or (t_not (t_val (d_isi T rfl M.b_isinstance (d_var 21) rfl (.own M.c_TooMany)))) (w_or1 (t_cmp (o_neO T ME (hr.mono (by decide)) hgd trivial) (d_attr T (d_var 21)) d_int (by rfl))))) (ss_one (s_ret d_bl)) ss_nil)))) (ss_one (s_if (DW.dt (w_or (t_cmp (o_neO T ME (hr.mono (by decide)) hgd trivial) (d_callF F_joined (hr.mono (by decide)) hgd rfl trivial (a_cons (d_var 19) (a_cons d_int (a_cons (d_make A_Rule (hr.mono (by decide)) hgd rfl trivial (a_cons (d_var 3) (a_cons (d_lst (a_cons d_int (a_cons d_int (a_cons d_int (a_cons d_int a_nil))))) a_nil))) (a_cons d_int a_nil))))) (d_var 19) (by rfl)) (w_or1 (t_not (t_val (d_callF F__law_refused (hr.mono (by decide)) hgd rfl hgp (a_cons (d_var 1) (a_cons (d_var 8) (a_cons (d_var 9) a_nil))))))))) (ss_one (s_ret d_bl)) ss_nil)))))))))))) (ss_one (s_ret d_bl)))), ?_⟩
  refine ⟨_, rfl, a, ns, rfl, hS, hlen, hT, fun z r L Cc cells H' B => law_read (N := 20) B rfl ?_ hq⟩
  dsimp only [List.replicate]
  clear CD CD0 hcs hcd hr hgd hS hT ME LT hfc
  refine seq_hide fun V0 hV0 => ?_
  refine for_hide fun W0 hW0 => ?_
  dsimp only [DL.vAsg, DL.vFor, DL.vSeqI, DL.vNeg, DL.vPar, DL.vDct, DL.vEnum, DL.vRepL, DL.vRepr, DL.rRepr, DL.vIsiT, DL.vCallK, DL.vLenS, DL.vRaiX, DL.vRai0, DL.vFld, DL.rMulA, DL.vTryAs, DL.vCallW, DL.vCallH, DL.vBorL, DL.vStar, DL.vRev, DL.rRev, DL.vZip, DL.items2, DL.seqOf, DL.vAsgO, DL.vNilO, DL.vConsO, DL.vOwnO, DL.setO, DL.rSumA, DL.vBoxI, DL.vBoxS, DL.vCells, DL.vPopOr, DL.vScr, DL.vV, DL.vC, DL.vOp, DL.isB, DL.vTest, DL.vAnd, DL.vOr, DL.vNot, DL.vAndV, DL.vOrV, DL.vNotV, DL.vIf, DL.isNon, DL.vIsN, DL.vNotN, DL.vNil, DL.vCons, DL.vTup, DL.vLst, DL.rAdd, DL.rSub, DL.rMul, DL.rInt, DL.rDiv, DL.rMod, DL.rPow, DL.rShl, DL.rLt, DL.rLe, DL.rGt, DL.rGe, DL.vChain, DL.rIx, DL.vIx, DL.vNoPart, DL.isI, DL.vPart, DL.rSl, DL.vSl, DL.vCB, DL.rLen, DL.rAbs, DL.rMax2, DL.rMin2, DL.rIntOf, DL.rListOf, DL.rTupleOf, DL.vNext, DL.vBreak, DL.vCont, DL.vNever, DL.vFrz, DL.vBor, DL.vBorT, DL.vSet, DL.vDrop, DL.vRet, DL.vRetN, DL.vIfS, DL.vNew, DL.vOwn, DL.isL, DL.isIn, DL.isOwnL, DL.vApp, DL.vSto, DL.gV, DL.gT, DL.vRng1, DL.vRng2, DL.vYes, DL.vLc, DL.vCall, DL.vAttr, DL.vIsi, DL.vMk0, DL.vMkX, endsD, endsI, startI, isInsA, putD, capS, List.getElem?_cons_zero, List.getElem?_cons_succ, List.set_cons_zero, List.set_cons_succ, frz, frz1, wipeS, setN, noOwn, DL.isNon, Bool.not_true, Bool.not_false, List.length_cons, List.length_nil, List.map, cPick, cTake]
  refine ⟨rfl, fun nn hnn => ⟨?_, fun _ => lawI, ⟨_, _, _, _, _, _, _, _, _, _, _, _, _, _, _, _, _, _, _, _, (fun d h => by cases h), rfl⟩, ?_, ?_⟩⟩
  · have : (if (4 : Int) < (nn : Int) then (4 : Int) else nn) ≤ 63 := by split <;> omega
    have : 0 ≤ (if (4 : Int) < (nn : Int) then (4 : Int) else nn) := by split <;> omega
    constructor <;> omega
  · rintro i dt ss - ⟨x2, x3, x4, x5, x6, x7, x8, x9, x10, x11, x12, x13, x14, x15, x16, x17, x18, x19, x20, x21, h10, rfl⟩
    rw [hW0]
    clear hW0 hV0
    refine seq_hide fun V1 hV1 => ?_
    dsimp only [DL.vAsg, DL.vFor, DL.vSeqI, DL.vNeg, DL.vPar, DL.vDct, DL.vEnum, DL.vRepL, DL.vRepr, DL.rRepr, DL.vIsiT, DL.vCallK, DL.vLenS, DL.vRaiX, DL.vRai0, DL.vFld, DL.rMulA, DL.vTryAs, DL.vCallW, DL.vCallH, DL.vBorL, DL.vStar, DL.vRev, DL.rRev, DL.vZip, DL.items2, DL.seqOf, DL.vAsgO, DL.vNilO, DL.vConsO, DL.vOwnO, DL.setO, DL.rSumA, DL.vBoxI, DL.vBoxS, DL.vCells, DL.vPopOr, DL.vScr, DL.vV, DL.vC, DL.vOp, DL.isB, DL.vTest, DL.vAnd, DL.vOr, DL.vNot, DL.vAndV, DL.vOrV, DL.vNotV, DL.vIf, DL.isNon, DL.vIsN, DL.vNotN, DL.vNil, DL.vCons, DL.vTup, DL.vLst, DL.rAdd, DL.rSub, DL.rMul, DL.rInt, DL.rDiv, DL.rMod, DL.rPow, DL.rShl, DL.rLt, DL.rLe, DL.rGt, DL.rGe, DL.vChain, DL.rIx, DL.vIx, DL.vNoPart, DL.isI, DL.vPart, DL.rSl, DL.vSl, DL.vCB, DL.rLen, DL.rAbs, DL.rMax2, DL.rMin2, DL.rIntOf, DL.rListOf, DL.rTupleOf, DL.vNext, DL.vBreak, DL.vCont, DL.vNever, DL.vFrz, DL.vBor, DL.vBorT, DL.vSet, DL.vDrop, DL.vRet, DL.vRetN, DL.vIfS, DL.vNew, DL.vOwn, DL.isL, DL.isIn, DL.isOwnL, DL.vApp, DL.vSto, DL.gV, DL.gT, DL.vRng1, DL.vRng2, DL.vYes, DL.vLc, DL.vCall, DL.vAttr, DL.vIsi, DL.vMk0, DL.vMkX, endsD, endsI, startI, isInsA, putD, capS, List.getElem?_cons_zero, List.getElem?_cons_succ, List.set_cons_zero, List.set_cons_succ, frz, frz1, wipeS, setN, noOwn, DL.isNon, Bool.not_true, Bool.not_false, List.length_cons, List.length_nil, List.map, cPick, cTake]
    refine ⟨rfl, rfl, fun p hp => ⟨rfl, _, rfl, by decide, by decide, fun m' m0 m5 => ⟨rfl, _, rfl, by decide, by decide, fun n' n0 n5 => ⟨rfl, by decide, ?_⟩⟩⟩⟩
    obtain ⟨m, rfl⟩ : ∃ m : Nat, m' = m := ⟨m'.toNat, by omega⟩
    obtain ⟨n, rfl⟩ : ∃ n : Nat, n' = n := ⟨n'.toNat, by omega⟩
    have m5 : m < 5 := by omega
    have n5 : n < 5 := by omega
    obtain ⟨hp3, hp97⟩ := prime_in hp
    have pm := pow256 (show m ≤ 8 by omega)
    have pn := pow256 (show n ≤ 8 by omega)
    have pm0 := Nat.two_pow_pos m
    have pn0 := Nat.two_pow_pos n
    have eM := pow_int m
    have eN := pow_int n
    rw [hV1]
    clear hV1 m0 n0
    refine seq_hide fun V2 hV2 => ?_
    dsimp only [DL.vAsg, DL.vFor, DL.vSeqI, DL.vNeg, DL.vPar, DL.vDct, DL.vEnum, DL.vRepL, DL.vRepr, DL.rRepr, DL.vIsiT, DL.vCallK, DL.vLenS, DL.vRaiX, DL.vRai0, DL.vFld, DL.rMulA, DL.vTryAs, DL.vCallW, DL.vCallH, DL.vBorL, DL.vStar, DL.vRev, DL.rRev, DL.vZip, DL.items2, DL.seqOf, DL.vAsgO, DL.vNilO, DL.vConsO, DL.vOwnO, DL.setO, DL.rSumA, DL.vBoxI, DL.vBoxS, DL.vCells, DL.vPopOr, DL.vScr, DL.vV, DL.vC, DL.vOp, DL.isB, DL.vTest, DL.vAnd, DL.vOr, DL.vNot, DL.vAndV, DL.vOrV, DL.vNotV, DL.vIf, DL.isNon, DL.vIsN, DL.vNotN, DL.vNil, DL.vCons, DL.vTup, DL.vLst, DL.rAdd, DL.rSub, DL.rMul, DL.rInt, DL.rDiv, DL.rMod, DL.rPow, DL.rShl, DL.rLt, DL.rLe, DL.rGt, DL.rGe, DL.vChain, DL.rIx, DL.vIx, DL.vNoPart, DL.isI, DL.vPart, DL.rSl, DL.vSl, DL.vCB, DL.rLen, DL.rAbs, DL.rMax2, DL.rMin2, DL.rIntOf, DL.rListOf, DL.rTupleOf, DL.vNext, DL.vBreak, DL.vCont, DL.vNever, DL.vFrz, DL.vBor, DL.vBorT, DL.vSet, DL.vDrop, DL.vRet, DL.vRetN, DL.vIfS, DL.vNew, DL.vOwn, DL.isL, DL.isIn, DL.isOwnL, DL.vApp, DL.vSto, DL.gV, DL.gT, DL.vRng1, DL.vRng2, DL.vYes, DL.vLc, DL.vCall, DL.vAttr, DL.vIsi, DL.vMk0, DL.vMkX, endsD, endsI, startI, isInsA, putD, capS, List.getElem?_cons_zero, List.getElem?_cons_succ, List.set_cons_zero, List.set_cons_succ, frz, frz1, wipeS, setN, noOwn, DL.isNon, Bool.not_true, Bool.not_false, List.length_cons, List.length_nil, List.map]
    rw [eM, eN]
    refine ⟨⟨by omega, by omega, by decide⟩, rfl, p, 2 ^ m, rfl, hp3, hp97, by omega, fun t1 hL1 hn1 => ⟨⟨by omega, by omega, by decide⟩, rfl, p, 2 ^ n, rfl, hp3, hp97, by omega, fun t2 hL2 hn2 => ?_⟩⟩
    have T1 : Tab p m t1 := ⟨hp, by omega, hL1, hn1⟩
    have T2 : Tab p n t2 := ⟨hp, by omega, hL2, hn2⟩
    try dsimp only [DL.vAsg, DL.vFor, DL.vSeqI, DL.vNeg, DL.vPar, DL.vDct, DL.vEnum, DL.vRepL, DL.vRepr, DL.rRepr, DL.vIsiT, DL.vCallK, DL.vLenS, DL.vRaiX, DL.vRai0, DL.vFld, DL.rMulA, DL.vTryAs, DL.vCallW, DL.vCallH, DL.vBorL, DL.vStar, DL.vRev, DL.rRev, DL.vZip, DL.items2, DL.seqOf, DL.vAsgO, DL.vNilO, DL.vConsO, DL.vOwnO, DL.setO, DL.rSumA, DL.vBoxI, DL.vBoxS, DL.vCells, DL.vPopOr, DL.vScr, DL.vV, DL.vC, DL.vOp, DL.isB, DL.vTest, DL.vAnd, DL.vOr, DL.vNot, DL.vAndV, DL.vOrV, DL.vNotV, DL.vIf, DL.isNon, DL.vIsN, DL.vNotN, DL.vNil, DL.vCons, DL.vTup, DL.vLst, DL.rAdd, DL.rSub, DL.rMul, DL.rInt, DL.rDiv, DL.rMod, DL.rPow, DL.rShl, DL.rLt, DL.rLe, DL.rGt, DL.rGe, DL.vChain, DL.rIx, DL.vIx, DL.vNoPart, DL.isI, DL.vPart, DL.rSl, DL.vSl, DL.vCB, DL.rLen, DL.rAbs, DL.rMax2, DL.rMin2, DL.rIntOf, DL.rListOf, DL.rTupleOf, DL.vNext, DL.vBreak, DL.vCont, DL.vNever, DL.vFrz, DL.vBor, DL.vBorT, DL.vSet, DL.vDrop, DL.vRet, DL.vRetN, DL.vIfS, DL.vNew, DL.vOwn, DL.isL, DL.isIn, DL.isOwnL, DL.vApp, DL.vSto, DL.gV, DL.gT, DL.vRng1, DL.vRng2, DL.vYes, DL.vLc, DL.vCall, DL.vAttr, DL.vIsi, DL.vMk0, DL.vMkX, endsD, endsI, startI, isInsA, putD, capS, List.getElem?_cons_zero, List.getElem?_cons_succ, List.set_cons_zero, List.set_cons_succ, frz, frz1, wipeS, setN, noOwn, DL.isNon, Bool.not_true, Bool.not_false, List.length_cons, List.length_nil, List.map]
    refine ⟨by decide, rfl, ?_⟩
    rw [hV2]
    clear hV2
    refine seq_hide fun V3 hV3 => ?_
    dsimp only [DL.vAsg, DL.vFor, DL.vSeqI, DL.vNeg, DL.vPar, DL.vDct, DL.vEnum, DL.vRepL, DL.vRepr, DL.rRepr, DL.vIsiT, DL.vCallK, DL.vLenS, DL.vRaiX, DL.vRai0, DL.vFld, DL.rMulA, DL.vTryAs, DL.vCallW, DL.vCallH, DL.vBorL, DL.vStar, DL.vRev, DL.rRev, DL.vZip, DL.items2, DL.seqOf, DL.vAsgO, DL.vNilO, DL.vConsO, DL.vOwnO, DL.setO, DL.rSumA, DL.vBoxI, DL.vBoxS, DL.vCells, DL.vPopOr, DL.vScr, DL.vV, DL.vC, DL.vOp, DL.isB, DL.vTest, DL.vAnd, DL.vOr, DL.vNot, DL.vAndV, DL.vOrV, DL.vNotV, DL.vIf, DL.isNon, DL.vIsN, DL.vNotN, DL.vNil, DL.vCons, DL.vTup, DL.vLst, DL.rAdd, DL.rSub, DL.rMul, DL.rInt, DL.rDiv, DL.rMod, DL.rPow, DL.rShl, DL.rLt, DL.rLe, DL.rGt, DL.rGe, DL.vChain, DL.rIx, DL.vIx, DL.vNoPart, DL.isI, DL.vPart, DL.rSl, DL.vSl, DL.vCB, DL.rLen, DL.rAbs, DL.rMax2, DL.rMin2, DL.rIntOf, DL.rListOf, DL.rTupleOf, DL.vNext, DL.vBreak, DL.vCont, DL.vNever, DL.vFrz, DL.vBor, DL.vBorT, DL.vSet, DL.vDrop, DL.vRet, DL.vRetN, DL.vIfS, DL.vNew, DL.vOwn, DL.isL, DL.isIn, DL.isOwnL, DL.vApp, DL.vSto, DL.gV, DL.gT, DL.vRng1, DL.vRng2, DL.vYes, DL.vLc, DL.vCall, DL.vAttr, DL.vIsi, DL.vMk0, DL.vMkX, endsD, endsI, startI, isInsA, putD, capS, List.getElem?_cons_zero, List.getElem?_cons_succ, List.set_cons_zero, List.set_cons_succ, frz, frz1, wipeS, setN, noOwn, DL.isNon, Bool.not_true, Bool.not_false, List.length_cons, List.length_nil, List.map]
    refine ⟨rfl, (rule_mk T1 ⟨rfl, (rule_mk T2 ?_).1⟩).1⟩
    rw [hV3]
    clear hV3
    refine seq_hide fun V4 hV4 => ?_
    dsimp only [DL.vAsg, DL.vFor, DL.vSeqI, DL.vNeg, DL.vPar, DL.vDct, DL.vEnum, DL.vRepL, DL.vRepr, DL.rRepr, DL.vIsiT, DL.vCallK, DL.vLenS, DL.vRaiX, DL.vRai0, DL.vFld, DL.rMulA, DL.vTryAs, DL.vCallW, DL.vCallH, DL.vBorL, DL.vStar, DL.vRev, DL.rRev, DL.vZip, DL.items2, DL.seqOf, DL.vAsgO, DL.vNilO, DL.vConsO, DL.vOwnO, DL.setO, DL.rSumA, DL.vBoxI, DL.vBoxS, DL.vCells, DL.vPopOr, DL.vScr, DL.vV, DL.vC, DL.vOp, DL.isB, DL.vTest, DL.vAnd, DL.vOr, DL.vNot, DL.vAndV, DL.vOrV, DL.vNotV, DL.vIf, DL.isNon, DL.vIsN, DL.vNotN, DL.vNil, DL.vCons, DL.vTup, DL.vLst, DL.rAdd, DL.rSub, DL.rMul, DL.rInt, DL.rDiv, DL.rMod, DL.rPow, DL.rShl, DL.rLt, DL.rLe, DL.rGt, DL.rGe, DL.vChain, DL.rIx, DL.vIx, DL.vNoPart, DL.isI, DL.vPart, DL.rSl, DL.vSl, DL.vCB, DL.rLen, DL.rAbs, DL.rMax2, DL.rMin2, DL.rIntOf, DL.rListOf, DL.rTupleOf, DL.vNext, DL.vBreak, DL.vCont, DL.vNever, DL.vFrz, DL.vBor, DL.vBorT, DL.vSet, DL.vDrop, DL.vRet, DL.vRetN, DL.vIfS, DL.vNew, DL.vOwn, DL.isL, DL.isIn, DL.isOwnL, DL.vApp, DL.vSto, DL.gV, DL.gT, DL.vRng1, DL.vRng2, DL.vYes, DL.vLc, DL.vCall, DL.vAttr, DL.vIsi, DL.vMk0, DL.vMkX, endsD, endsI, startI, isInsA, putD, capS, List.getElem?_cons_zero, List.getElem?_cons_succ, List.set_cons_zero, List.set_cons_succ, frz, frz1, wipeS, setN, noOwn, DL.isNon, Bool.not_true, Bool.not_false, List.length_cons, List.length_nil, List.map]
    have no10 : (match some x10 with | some (Sl.own d) => False | x => True) := by
      cases x10 with
      | own d => exact (h10 d rfl).elim
      | _ => trivial
    have pmn := pow256 (show m + n ≤ 8 by omega)
    have epn : ((2 ^ m : Nat) : Int) * ((2 ^ n : Nat) : Int) = ((2 ^ (m + n) : Nat) : Int) := by rw [Nat.pow_add]; push_cast; rfl
    rw [intsL_len, intsL_len, hL1, hL2, epn, Int.toNat_natCast]
    have lt2 : ((2 ^ (m + n) : Nat) : Int) < 1000000000000 ∧ -1000000000000 < ((2 ^ (m + n) : Nat) : Int) := by
      generalize 2 ^ (m + n) = z at pmn ⊢
      omega
    refine ⟨⟨no10, trivial⟩, .inl ⟨by omega, by omega⟩, lt2, by rw [ints_len]; omega, lc_rng (fun i => .int (t1.getD (i / 2 ^ n) 0 * t2.getD (i % 2 ^ n) 0 % p)) (n := 2 ^ (m + n)) (hs := fun i hi acc I hI => ?_) (he := ?_)⟩
    · have h1 := pow_split hi
      have h2 : i % 2 ^ n < 2 ^ n := Nat.mod_lt _ pn0
      have i1 := tab_in T1 h1
      refine ⟨?_, ?_⟩
      · have := pow8 (a := (i : Int)) (n := n) (by omega)
        rw [show ((2 ^ n : Nat) : Int) = 1 * 2 ^ n by push_cast; omega]
        exact this
      rw [show (i : Int) / ((2 ^ n : Nat) : Int) = ((i / 2 ^ n : Nat) : Int) from rfl, atI_ints (tab_nat T1 h1)]
      refine ⟨by omega, ?_⟩
      rw [show (i : Int) % ((2 ^ n : Nat) : Int) = ((i % 2 ^ n : Nat) : Int) from rfl, atI_ints (tab_nat T2 h2)]
      exact ⟨.inl ⟨by omega, by omega⟩, by omega, hI⟩
    rw [intsL_map, show (List.range (2 ^ (m + n))).map (fun (i : Nat) => t1.getD (i / 2 ^ n) 0 * t2.getD (i % 2 ^ n) 0 % p) = tabBeside p m n t1 t2 from rfl, hV4]
    clear hV4
    have T3 : Tab p (m + n) (tabBeside p m n t1 t2) := ⟨hp, by omega, by unfold tabBeside; rw [List.length_map, List.length_range], fun x hx => by
      obtain ⟨i, _, rfl⟩ := List.mem_map.mp hx
      exact ⟨Int.emod_nonneg _ (by omega), Int.emod_lt_of_pos _ (by omega)⟩⟩
    refine seq_hide fun V5 hV5 => ?_
    dsimp only [DL.vAsg, DL.vFor, DL.vSeqI, DL.vNeg, DL.vPar, DL.vDct, DL.vEnum, DL.vRepL, DL.vRepr, DL.rRepr, DL.vIsiT, DL.vCallK, DL.vLenS, DL.vRaiX, DL.vRai0, DL.vFld, DL.rMulA, DL.vTryAs, DL.vCallW, DL.vCallH, DL.vBorL, DL.vStar, DL.vRev, DL.rRev, DL.vZip, DL.items2, DL.seqOf, DL.vAsgO, DL.vNilO, DL.vConsO, DL.vOwnO, DL.setO, DL.rSumA, DL.vBoxI, DL.vBoxS, DL.vCells, DL.vPopOr, DL.vScr, DL.vV, DL.vC, DL.vOp, DL.isB, DL.vTest, DL.vAnd, DL.vOr, DL.vNot, DL.vAndV, DL.vOrV, DL.vNotV, DL.vIf, DL.isNon, DL.vIsN, DL.vNotN, DL.vNil, DL.vCons, DL.vTup, DL.vLst, DL.rAdd, DL.rSub, DL.rMul, DL.rInt, DL.rDiv, DL.rMod, DL.rPow, DL.rShl, DL.rLt, DL.rLe, DL.rGt, DL.rGe, DL.vChain, DL.rIx, DL.vIx, DL.vNoPart, DL.isI, DL.vPart, DL.rSl, DL.vSl, DL.vCB, DL.rLen, DL.rAbs, DL.rMax2, DL.rMin2, DL.rIntOf, DL.rListOf, DL.rTupleOf, DL.vNext, DL.vBreak, DL.vCont, DL.vNever, DL.vFrz, DL.vBor, DL.vBorT, DL.vSet, DL.vDrop, DL.vRet, DL.vRetN, DL.vIfS, DL.vNew, DL.vOwn, DL.isL, DL.isIn, DL.isOwnL, DL.vApp, DL.vSto, DL.gV, DL.gT, DL.vRng1, DL.vRng2, DL.vYes, DL.vLc, DL.vCall, DL.vAttr, DL.vIsi, DL.vMk0, DL.vMkX, endsD, endsI, startI, isInsA, putD, capS, List.getElem?_cons_zero, List.getElem?_cons_succ, List.set_cons_zero, List.set_cons_succ, frz, frz1, wipeS, setN, noOwn, DL.isNon, Bool.not_true, Bool.not_false, List.length_cons, List.length_nil, List.map]
    refine ⟨rfl, beside_ok T1 T2 (by omega) ⟨rfl, is_ok T3 ?_⟩⟩
    dsimp only [DL.vAsg, DL.vFor, DL.vSeqI, DL.vNeg, DL.vPar, DL.vDct, DL.vEnum, DL.vRepL, DL.vRepr, DL.rRepr, DL.vIsiT, DL.vCallK, DL.vLenS, DL.vRaiX, DL.vRai0, DL.vFld, DL.rMulA, DL.vTryAs, DL.vCallW, DL.vCallH, DL.vBorL, DL.vStar, DL.vRev, DL.rRev, DL.vZip, DL.items2, DL.seqOf, DL.vAsgO, DL.vNilO, DL.vConsO, DL.vOwnO, DL.setO, DL.rSumA, DL.vBoxI, DL.vBoxS, DL.vCells, DL.vPopOr, DL.vScr, DL.vV, DL.vC, DL.vOp, DL.isB, DL.vTest, DL.vAnd, DL.vOr, DL.vNot, DL.vAndV, DL.vOrV, DL.vNotV, DL.vIf, DL.isNon, DL.vIsN, DL.vNotN, DL.vNil, DL.vCons, DL.vTup, DL.vLst, DL.rAdd, DL.rSub, DL.rMul, DL.rInt, DL.rDiv, DL.rMod, DL.rPow, DL.rShl, DL.rLt, DL.rLe, DL.rGt, DL.rGe, DL.vChain, DL.rIx, DL.vIx, DL.vNoPart, DL.isI, DL.vPart, DL.rSl, DL.vSl, DL.vCB, DL.rLen, DL.rAbs, DL.rMax2, DL.rMin2, DL.rIntOf, DL.rListOf, DL.rTupleOf, DL.vNext, DL.vBreak, DL.vCont, DL.vNever, DL.vFrz, DL.vBor, DL.vBorT, DL.vSet, DL.vDrop, DL.vRet, DL.vRetN, DL.vIfS, DL.vNew, DL.vOwn, DL.isL, DL.isIn, DL.isOwnL, DL.vApp, DL.vSto, DL.gV, DL.gT, DL.vRng1, DL.vRng2, DL.vYes, DL.vLc, DL.vCall, DL.vAttr, DL.vIsi, DL.vMk0, DL.vMkX, endsD, endsI, startI, isInsA, putD, capS, List.getElem?_cons_zero, List.getElem?_cons_succ, List.set_cons_zero, List.set_cons_succ, frz, frz1, wipeS, setN, noOwn, DL.isNon, Bool.not_true, Bool.not_false, List.length_cons, List.length_nil, List.map]
    refine ⟨rfl, beside_ok T1 T2 (by omega) ⟨rfl, (rule_mk T3 (ne_rule ?_)).1⟩⟩
    rw [decide_eq_true rfl, decide_eq_true rfl]
    dsimp only [DL.isB, Bool.and_self, Bool.not_true]
    rw [hV5]
    clear hV5
    refine seq_hide fun V6 hV6 => ?_
    refine for_hide fun W1 hW1 => ?_
    dsimp only [DL.vAsg, DL.vFor, DL.vSeqI, DL.vNeg, DL.vPar, DL.vDct, DL.vEnum, DL.vRepL, DL.vRepr, DL.rRepr, DL.vIsiT, DL.vCallK, DL.vLenS, DL.vRaiX, DL.vRai0, DL.vFld, DL.rMulA, DL.vTryAs, DL.vCallW, DL.vCallH, DL.vBorL, DL.vStar, DL.vRev, DL.rRev, DL.vZip, DL.items2, DL.seqOf, DL.vAsgO, DL.vNilO, DL.vConsO, DL.vOwnO, DL.setO, DL.rSumA, DL.vBoxI, DL.vBoxS, DL.vCells, DL.vPopOr, DL.vScr, DL.vV, DL.vC, DL.vOp, DL.isB, DL.vTest, DL.vAnd, DL.vOr, DL.vNot, DL.vAndV, DL.vOrV, DL.vNotV, DL.vIf, DL.isNon, DL.vIsN, DL.vNotN, DL.vNil, DL.vCons, DL.vTup, DL.vLst, DL.rAdd, DL.rSub, DL.rMul, DL.rInt, DL.rDiv, DL.rMod, DL.rPow, DL.rShl, DL.rLt, DL.rLe, DL.rGt, DL.rGe, DL.vChain, DL.rIx, DL.vIx, DL.vNoPart, DL.isI, DL.vPart, DL.rSl, DL.vSl, DL.vCB, DL.rLen, DL.rAbs, DL.rMax2, DL.rMin2, DL.rIntOf, DL.rListOf, DL.rTupleOf, DL.vNext, DL.vBreak, DL.vCont, DL.vNever, DL.vFrz, DL.vBor, DL.vBorT, DL.vSet, DL.vDrop, DL.vRet, DL.vRetN, DL.vIfS, DL.vNew, DL.vOwn, DL.isL, DL.isIn, DL.isOwnL, DL.vApp, DL.vSto, DL.gV, DL.gT, DL.vRng1, DL.vRng2, DL.vYes, DL.vLc, DL.vCall, DL.vAttr, DL.vIsi, DL.vMk0, DL.vMkX, endsD, endsI, startI, isInsA, putD, capS, List.getElem?_cons_zero, List.getElem?_cons_succ, List.set_cons_zero, List.set_cons_succ, frz, frz1, wipeS, setN, noOwn, DL.isNon, Bool.not_true, Bool.not_false, List.length_cons, List.length_nil, List.map]
    refine ⟨⟨by omega, by omega⟩, fun _ ss => ∃ y10 y11 y12 y13 y14 y15 : Sl, (∀ d, y10 ≠ .own d) ∧ ss = [.v (.box 7), .v (.box 0), .v dt, .v (.int p), .v (.int m), .v (.int n), .v (.lst (intsL t1)), .v (.lst (intsL t2)), .v (ruleD C p (.int m) (intsL t1)), .v (ruleD C p (.int n) (intsL t2)), y10, y11, y12, y13, y14, y15, x16, x17, x18, x19, x20, x21], ⟨_, _, _, _, _, _, h10, rfl⟩, ?_, ?_⟩
    · rintro l d ss hd ⟨y10, y11, y12, y13, y14, y15, h10, rfl⟩
      obtain ⟨hl, rfl⟩ := ints_get hd
      have hl : l < m := by omega
      rw [Int.zero_add, hW1]
      refine for_hide fun W2 hW2 => ?_
      dsimp only [DL.vAsg, DL.vFor, DL.vSeqI, DL.vNeg, DL.vPar, DL.vDct, DL.vEnum, DL.vRepL, DL.vRepr, DL.rRepr, DL.vIsiT, DL.vCallK, DL.vLenS, DL.vRaiX, DL.vRai0, DL.vFld, DL.rMulA, DL.vTryAs, DL.vCallW, DL.vCallH, DL.vBorL, DL.vStar, DL.vRev, DL.rRev, DL.vZip, DL.items2, DL.seqOf, DL.vAsgO, DL.vNilO, DL.vConsO, DL.vOwnO, DL.setO, DL.rSumA, DL.vBoxI, DL.vBoxS, DL.vCells, DL.vPopOr, DL.vScr, DL.vV, DL.vC, DL.vOp, DL.isB, DL.vTest, DL.vAnd, DL.vOr, DL.vNot, DL.vAndV, DL.vOrV, DL.vNotV, DL.vIf, DL.isNon, DL.vIsN, DL.vNotN, DL.vNil, DL.vCons, DL.vTup, DL.vLst, DL.rAdd, DL.rSub, DL.rMul, DL.rInt, DL.rDiv, DL.rMod, DL.rPow, DL.rShl, DL.rLt, DL.rLe, DL.rGt, DL.rGe, DL.vChain, DL.rIx, DL.vIx, DL.vNoPart, DL.isI, DL.vPart, DL.rSl, DL.vSl, DL.vCB, DL.rLen, DL.rAbs, DL.rMax2, DL.rMin2, DL.rIntOf, DL.rListOf, DL.rTupleOf, DL.vNext, DL.vBreak, DL.vCont, DL.vNever, DL.vFrz, DL.vBor, DL.vBorT, DL.vSet, DL.vDrop, DL.vRet, DL.vRetN, DL.vIfS, DL.vNew, DL.vOwn, DL.isL, DL.isIn, DL.isOwnL, DL.vApp, DL.vSto, DL.gV, DL.gT, DL.vRng1, DL.vRng2, DL.vYes, DL.vLc, DL.vCall, DL.vAttr, DL.vIsi, DL.vMk0, DL.vMkX, endsD, endsI, startI, isInsA, putD, capS, List.getElem?_cons_zero, List.getElem?_cons_succ, List.set_cons_zero, List.set_cons_succ, frz, frz1, wipeS, setN, noOwn, DL.isNon, Bool.not_true, Bool.not_false, List.length_cons, List.length_nil, List.map]
      refine ⟨⟨by omega, by omega, by omega, by omega⟩, fun _ ss => ∃ y10 y11 y13 y14 y15 : Sl, (∀ d, y10 ≠ .own d) ∧ ss = [.v (.box 7), .v (.box 0), .v dt, .v (.int p), .v (.int m), .v (.int n), .v (.lst (intsL t1)), .v (.lst (intsL t2)), .v (ruleD C p (.int m) (intsL t1)), .v (ruleD C p (.int n) (intsL t2)), y10, y11, .v (.int l), y13, y14, y15, x16, x17, x18, x19, x20, x21], ⟨_, _, _, _, _, h10, rfl⟩, ?_, ?_⟩
      · rintro j d ss hd ⟨y10, y11, y13, y14, y15, h10, rfl⟩
        obtain ⟨hj, rfl⟩ := ints_get hd
        obtain ⟨s, es⟩ : ∃ s : Nat, (l : Int) + 1 + (j : Int) = s := ⟨l + 1 + j, by push_cast; omega⟩
        have hs : s < m := by omega
        have hls : l < s := by omega
        have A := acc_closed m5 hs hls
        have pk := Nat.two_pow_pos (m - 2)
        have pk2 := pow256 (show m - 2 ≤ 8 by omega)
        rw [es, hW2]
        refine seq_hide fun Va hVa => ?_
        dsimp only [DL.vAsg, DL.vFor, DL.vSeqI, DL.vNeg, DL.vPar, DL.vDct, DL.vEnum, DL.vRepL, DL.vRepr, DL.rRepr, DL.vIsiT, DL.vCallK, DL.vLenS, DL.vRaiX, DL.vRai0, DL.vFld, DL.rMulA, DL.vTryAs, DL.vCallW, DL.vCallH, DL.vBorL, DL.vStar, DL.vRev, DL.rRev, DL.vZip, DL.items2, DL.seqOf, DL.vAsgO, DL.vNilO, DL.vConsO, DL.vOwnO, DL.setO, DL.rSumA, DL.vBoxI, DL.vBoxS, DL.vCells, DL.vPopOr, DL.vScr, DL.vV, DL.vC, DL.vOp, DL.isB, DL.vTest, DL.vAnd, DL.vOr, DL.vNot, DL.vAndV, DL.vOrV, DL.vNotV, DL.vIf, DL.isNon, DL.vIsN, DL.vNotN, DL.vNil, DL.vCons, DL.vTup, DL.vLst, DL.rAdd, DL.rSub, DL.rMul, DL.rInt, DL.rDiv, DL.rMod, DL.rPow, DL.rShl, DL.rLt, DL.rLe, DL.rGt, DL.rGe, DL.vChain, DL.rIx, DL.vIx, DL.vNoPart, DL.isI, DL.vPart, DL.rSl, DL.vSl, DL.vCB, DL.rLen, DL.rAbs, DL.rMax2, DL.rMin2, DL.rIntOf, DL.rListOf, DL.rTupleOf, DL.vNext, DL.vBreak, DL.vCont, DL.vNever, DL.vFrz, DL.vBor, DL.vBorT, DL.vSet, DL.vDrop, DL.vRet, DL.vRetN, DL.vIfS, DL.vNew, DL.vOwn, DL.isL, DL.isIn, DL.isOwnL, DL.vApp, DL.vSto, DL.gV, DL.gT, DL.vRng1, DL.vRng2, DL.vYes, DL.vLc, DL.vCall, DL.vAttr, DL.vIsi, DL.vMk0, DL.vMkX, endsD, endsI, startI, isInsA, putD, capS, List.getElem?_cons_zero, List.getElem?_cons_succ, List.set_cons_zero, List.set_cons_succ, frz, frz1, wipeS, setN, noOwn, DL.isNon, Bool.not_true, Bool.not_false, List.length_cons, List.length_nil, List.map]
        rw [show (m : Int) - 2 = ((m - 2 : Nat) : Int) by omega, pow_int, Int.toNat_natCast, flat_one, rep_one]
        refine ⟨by decide, ⟨by omega, by omega, by decide⟩, ⟨by omega, by omega⟩, ?_, ?_⟩
        · have : 100000 < sizeLine := by decide
          show 1 * _ ≤ _
          omega
        rw [hVa]
        clear hVa
        refine seq_hide fun Vb hVb => ?_
        refine for_hide fun W3 hW3 => ?_
        dsimp only [DL.vAsg, DL.vFor, DL.vSeqI, DL.vNeg, DL.vPar, DL.vDct, DL.vEnum, DL.vRepL, DL.vRepr, DL.rRepr, DL.vIsiT, DL.vCallK, DL.vLenS, DL.vRaiX, DL.vRai0, DL.vFld, DL.rMulA, DL.vTryAs, DL.vCallW, DL.vCallH, DL.vBorL, DL.vStar, DL.vRev, DL.rRev, DL.vZip, DL.items2, DL.seqOf, DL.vAsgO, DL.vNilO, DL.vConsO, DL.vOwnO, DL.setO, DL.rSumA, DL.vBoxI, DL.vBoxS, DL.vCells, DL.vPopOr, DL.vScr, DL.vV, DL.vC, DL.vOp, DL.isB, DL.vTest, DL.vAnd, DL.vOr, DL.vNot, DL.vAndV, DL.vOrV, DL.vNotV, DL.vIf, DL.isNon, DL.vIsN, DL.vNotN, DL.vNil, DL.vCons, DL.vTup, DL.vLst, DL.rAdd, DL.rSub, DL.rMul, DL.rInt, DL.rDiv, DL.rMod, DL.rPow, DL.rShl, DL.rLt, DL.rLe, DL.rGt, DL.rGe, DL.vChain, DL.rIx, DL.vIx, DL.vNoPart, DL.isI, DL.vPart, DL.rSl, DL.vSl, DL.vCB, DL.rLen, DL.rAbs, DL.rMax2, DL.rMin2, DL.rIntOf, DL.rListOf, DL.rTupleOf, DL.vNext, DL.vBreak, DL.vCont, DL.vNever, DL.vFrz, DL.vBor, DL.vBorT, DL.vSet, DL.vDrop, DL.vRet, DL.vRetN, DL.vIfS, DL.vNew, DL.vOwn, DL.isL, DL.isIn, DL.isOwnL, DL.vApp, DL.vSto, DL.gV, DL.gT, DL.vRng1, DL.vRng2, DL.vYes, DL.vLc, DL.vCall, DL.vAttr, DL.vIsi, DL.vMk0, DL.vMkX, endsD, endsI, startI, isInsA, putD, capS, List.getElem?_cons_zero, List.getElem?_cons_succ, List.set_cons_zero, List.set_cons_succ, frz, frz1, wipeS, setN, noOwn, DL.isNon, Bool.not_true, Bool.not_false, List.length_cons, List.length_nil, List.map]
        rw [eM, Int.toNat_natCast]
        refine ⟨⟨by omega, by omega, by decide⟩, ⟨by omega, by omega⟩, fun t ss => ∃ a14 a15 a10 : Sl, (∀ d, a10 ≠ .own d) ∧ ss = [.v (.box 7), .v (.box 0), .v dt, .v (.int p), .v (.int m), .v (.int n), .v (.lst (intsL t1)), .v (.lst (intsL t2)), .v (ruleD C p (.int m) (intsL t1)), .v (ruleD C p (.int n) (intsL t2)), a10, .own (.lst (intsL (accD (2 ^ (m - 2)) (cIx m l s) (fun k => t1.getD k 0) p t))), .v (.int l), .v (.int s), a14, a15, x16, x17, x18, x19, x20, x21], ⟨_, _, _, h10, by rw [acc_zero]⟩, ?_, ?_⟩
        · rintro k d ss hd ⟨a14, a15, a10, ha10, rfl⟩
          obtain ⟨hk, rfl⟩ := ints_get hd
          rw [Int.zero_add, hW3]
          refine seq_hide fun Va hVa => ?_
          dsimp only [DL.vAsg, DL.vFor, DL.vSeqI, DL.vNeg, DL.vPar, DL.vDct, DL.vEnum, DL.vRepL, DL.vRepr, DL.rRepr, DL.vIsiT, DL.vCallK, DL.vLenS, DL.vRaiX, DL.vRai0, DL.vFld, DL.rMulA, DL.vTryAs, DL.vCallW, DL.vCallH, DL.vBorL, DL.vStar, DL.vRev, DL.rRev, DL.vZip, DL.items2, DL.seqOf, DL.vAsgO, DL.vNilO, DL.vConsO, DL.vOwnO, DL.setO, DL.rSumA, DL.vBoxI, DL.vBoxS, DL.vCells, DL.vPopOr, DL.vScr, DL.vV, DL.vC, DL.vOp, DL.isB, DL.vTest, DL.vAnd, DL.vOr, DL.vNot, DL.vAndV, DL.vOrV, DL.vNotV, DL.vIf, DL.isNon, DL.vIsN, DL.vNotN, DL.vNil, DL.vCons, DL.vTup, DL.vLst, DL.rAdd, DL.rSub, DL.rMul, DL.rInt, DL.rDiv, DL.rMod, DL.rPow, DL.rShl, DL.rLt, DL.rLe, DL.rGt, DL.rGe, DL.vChain, DL.rIx, DL.vIx, DL.vNoPart, DL.isI, DL.vPart, DL.rSl, DL.vSl, DL.vCB, DL.rLen, DL.rAbs, DL.rMax2, DL.rMin2, DL.rIntOf, DL.rListOf, DL.rTupleOf, DL.vNext, DL.vBreak, DL.vCont, DL.vNever, DL.vFrz, DL.vBor, DL.vBorT, DL.vSet, DL.vDrop, DL.vRet, DL.vRetN, DL.vIfS, DL.vNew, DL.vOwn, DL.isL, DL.isIn, DL.isOwnL, DL.vApp, DL.vSto, DL.gV, DL.gT, DL.vRng1, DL.vRng2, DL.vYes, DL.vLc, DL.vCall, DL.vAttr, DL.vIsi, DL.vMk0, DL.vMkX, endsD, endsI, startI, isInsA, putD, capS, List.getElem?_cons_zero, List.getElem?_cons_succ, List.set_cons_zero, List.set_cons_succ, frz, frz1, wipeS, setN, noOwn, DL.isNon, Bool.not_true, Bool.not_false, List.length_cons, List.length_nil, List.map]
          refine ⟨rfl, (k : Int), m, rfl, by omega, ?_⟩
          rw [hVa]
          clear hVa
          refine if_hide fun Aa hAa Ba hBa => ?_
          dsimp only [DL.vAsg, DL.vFor, DL.vSeqI, DL.vNeg, DL.vPar, DL.vDct, DL.vEnum, DL.vRepL, DL.vRepr, DL.rRepr, DL.vIsiT, DL.vCallK, DL.vLenS, DL.vRaiX, DL.vRai0, DL.vFld, DL.rMulA, DL.vTryAs, DL.vCallW, DL.vCallH, DL.vBorL, DL.vStar, DL.vRev, DL.rRev, DL.vZip, DL.items2, DL.seqOf, DL.vAsgO, DL.vNilO, DL.vConsO, DL.vOwnO, DL.setO, DL.rSumA, DL.vBoxI, DL.vBoxS, DL.vCells, DL.vPopOr, DL.vScr, DL.vV, DL.vC, DL.vOp, DL.isB, DL.vTest, DL.vAnd, DL.vOr, DL.vNot, DL.vAndV, DL.vOrV, DL.vNotV, DL.vIf, DL.isNon, DL.vIsN, DL.vNotN, DL.vNil, DL.vCons, DL.vTup, DL.vLst, DL.rAdd, DL.rSub, DL.rMul, DL.rInt, DL.rDiv, DL.rMod, DL.rPow, DL.rShl, DL.rLt, DL.rLe, DL.rGt, DL.rGe, DL.vChain, DL.rIx, DL.vIx, DL.vNoPart, DL.isI, DL.vPart, DL.rSl, DL.vSl, DL.vCB, DL.rLen, DL.rAbs, DL.rMax2, DL.rMin2, DL.rIntOf, DL.rListOf, DL.rTupleOf, DL.vNext, DL.vBreak, DL.vCont, DL.vNever, DL.vFrz, DL.vBor, DL.vBorT, DL.vSet, DL.vDrop, DL.vRet, DL.vRetN, DL.vIfS, DL.vNew, DL.vOwn, DL.isL, DL.isIn, DL.isOwnL, DL.vApp, DL.vSto, DL.gV, DL.gT, DL.vRng1, DL.vRng2, DL.vYes, DL.vLc, DL.vCall, DL.vAttr, DL.vIsi, DL.vMk0, DL.vMkX, endsD, endsI, startI, isInsA, putD, capS, List.getElem?_cons_zero, List.getElem?_cons_succ, List.set_cons_zero, List.set_cons_succ, frz, frz1, wipeS, setN, noOwn, DL.isNon, Bool.not_true, Bool.not_false, List.length_cons, List.length_nil, List.map]
          rw [bitN_at hl, bitN_at hs]
          dsimp only [someD]
          refine eq_int ?_
          dsimp only [isB]
          refine mb _ (fun e => ?_) fun e => ?_
          rotate_left
          · rw [hBa]
            have ne : hClosed m l s k = none := if_neg (by have := of_decide_eq_false e; omega)
            rw [← acc_no A ne]
            exact ⟨_, _, _, (fun d z => by cases z), rfl⟩
          have e : bitN m k l = bitN m k s := by have := of_decide_eq_true e; omega
          have ye : hClosed m l s k = some (bitN m k l, dIx m l s k) := if_pos e
          have hix := (closed_to m m5 s hs l hls k hk e).1
          rw [hAa]
          clear hAa hBa
          refine seq_hide fun Va hVa => ?_
          dsimp only [DL.vAsg, DL.vFor, DL.vSeqI, DL.vNeg, DL.vPar, DL.vDct, DL.vEnum, DL.vRepL, DL.vRepr, DL.rRepr, DL.vIsiT, DL.vCallK, DL.vLenS, DL.vRaiX, DL.vRai0, DL.vFld, DL.rMulA, DL.vTryAs, DL.vCallW, DL.vCallH, DL.vBorL, DL.vStar, DL.vRev, DL.rRev, DL.vZip, DL.items2, DL.seqOf, DL.vAsgO, DL.vNilO, DL.vConsO, DL.vOwnO, DL.setO, DL.rSumA, DL.vBoxI, DL.vBoxS, DL.vCells, DL.vPopOr, DL.vScr, DL.vV, DL.vC, DL.vOp, DL.isB, DL.vTest, DL.vAnd, DL.vOr, DL.vNot, DL.vAndV, DL.vOrV, DL.vNotV, DL.vIf, DL.isNon, DL.vIsN, DL.vNotN, DL.vNil, DL.vCons, DL.vTup, DL.vLst, DL.rAdd, DL.rSub, DL.rMul, DL.rInt, DL.rDiv, DL.rMod, DL.rPow, DL.rShl, DL.rLt, DL.rLe, DL.rGt, DL.rGe, DL.vChain, DL.rIx, DL.vIx, DL.vNoPart, DL.isI, DL.vPart, DL.rSl, DL.vSl, DL.vCB, DL.rLen, DL.rAbs, DL.rMax2, DL.rMin2, DL.rIntOf, DL.rListOf, DL.rTupleOf, DL.vNext, DL.vBreak, DL.vCont, DL.vNever, DL.vFrz, DL.vBor, DL.vBorT, DL.vSet, DL.vDrop, DL.vRet, DL.vRetN, DL.vIfS, DL.vNew, DL.vOwn, DL.isL, DL.isIn, DL.isOwnL, DL.vApp, DL.vSto, DL.gV, DL.gT, DL.vRng1, DL.vRng2, DL.vYes, DL.vLc, DL.vCall, DL.vAttr, DL.vIsi, DL.vMk0, DL.vMkX, endsD, endsI, startI, isInsA, putD, capS, List.getElem?_cons_zero, List.getElem?_cons_succ, List.set_cons_zero, List.set_cons_succ, frz, frz1, wipeS, setN, noOwn, DL.isNon, Bool.not_true, Bool.not_false, List.length_cons, List.length_nil, List.map]
          have bl := bitsAt_len (legs := m) (index := (k : Int))
          rw [cut_to, show ((l : Int) + 1) = ((l + 1 : Nat) : Int) from rfl, show ((s : Int) + 1) = ((s + 1 : Nat) : Int) from rfl, cut_mid (by omega) (by omega), cut_from]
          have sL : 100000 < sizeLine := by decide
          rw [intsL_app, intsL_app]
          refine ⟨?_, ?_, rfl, _, _, rfl, rfl, ?_⟩
          · rw [intsL_len, intsL_len, List.length_take, List.length_take, List.length_drop]
            omega
          · rw [intsL_len, intsL_len, List.length_append, List.length_take, List.length_take, List.length_drop, List.length_drop]
            omega
          rw [dIx_eq, hVa]
          clear hVa
          dsimp only [DL.vAsg, DL.vFor, DL.vSeqI, DL.vNeg, DL.vPar, DL.vDct, DL.vEnum, DL.vRepL, DL.vRepr, DL.rRepr, DL.vIsiT, DL.vCallK, DL.vLenS, DL.vRaiX, DL.vRai0, DL.vFld, DL.rMulA, DL.vTryAs, DL.vCallW, DL.vCallH, DL.vBorL, DL.vStar, DL.vRev, DL.rRev, DL.vZip, DL.items2, DL.seqOf, DL.vAsgO, DL.vNilO, DL.vConsO, DL.vOwnO, DL.setO, DL.rSumA, DL.vBoxI, DL.vBoxS, DL.vCells, DL.vPopOr, DL.vScr, DL.vV, DL.vC, DL.vOp, DL.isB, DL.vTest, DL.vAnd, DL.vOr, DL.vNot, DL.vAndV, DL.vOrV, DL.vNotV, DL.vIf, DL.isNon, DL.vIsN, DL.vNotN, DL.vNil, DL.vCons, DL.vTup, DL.vLst, DL.rAdd, DL.rSub, DL.rMul, DL.rInt, DL.rDiv, DL.rMod, DL.rPow, DL.rShl, DL.rLt, DL.rLe, DL.rGt, DL.rGe, DL.vChain, DL.rIx, DL.vIx, DL.vNoPart, DL.isI, DL.vPart, DL.rSl, DL.vSl, DL.vCB, DL.rLen, DL.rAbs, DL.rMax2, DL.rMin2, DL.rIntOf, DL.rListOf, DL.rTupleOf, DL.vNext, DL.vBreak, DL.vCont, DL.vNever, DL.vFrz, DL.vBor, DL.vBorT, DL.vSet, DL.vDrop, DL.vRet, DL.vRetN, DL.vIfS, DL.vNew, DL.vOwn, DL.isL, DL.isIn, DL.isOwnL, DL.vApp, DL.vSto, DL.gV, DL.gT, DL.vRng1, DL.vRng2, DL.vYes, DL.vLc, DL.vCall, DL.vAttr, DL.vIsi, DL.vMk0, DL.vMkX, endsD, endsI, startI, isInsA, putD, capS, List.getElem?_cons_zero, List.getElem?_cons_succ, List.set_cons_zero, List.set_cons_succ, frz, frz1, wipeS, setN, noOwn, DL.isNon, Bool.not_true, Bool.not_false, List.length_cons, List.length_nil, List.map]
          refine ⟨fun i hi => by cases List.mem_singleton.mp hi; exact trivial, ?_⟩
          rw [at_get (by rw [acc_len]; exact hix)]
          dsimp only [someD]
          rw [at_get (by rw [hL1]; exact hk)]
          refine ⟨by omega, rfl, ?_⟩
          rw [intsL_len, acc_len, ixN_nat hix]
          refine ⟨.v (.tup (intsL (bitsAt m k))), .v (.int (dIx m l s k : Nat)), .v (.int k), (fun d z => by cases z), ?_⟩
          rw [acc_yes A hk ye, ← intsL_set]
        rintro ss ⟨a14, a15, a10, ha10, rfl⟩
        try rw [ints_len]
        rw [due_closed m5 hs hls, hVb]
        clear hVb hW3
        have T4 : Tab p (m - 2) (tabClosed p m l s t1) := ⟨hp, by omega, by unfold tabClosed; rw [List.length_map, List.length_range], fun x hx => by
          obtain ⟨i, _, rfl⟩ := List.mem_map.mp hx
          exact ⟨Int.emod_nonneg _ (by omega), Int.emod_lt_of_pos _ (by omega)⟩⟩
        have mi : min l s = l := by omega
        have ma : max l s = s := by omega
        have mi2 : min s l = l := by omega
        have ma2 : max s l = s := by omega
        dsimp only [DL.vAsg, DL.vFor, DL.vSeqI, DL.vNeg, DL.vPar, DL.vDct, DL.vEnum, DL.vRepL, DL.vRepr, DL.rRepr, DL.vIsiT, DL.vCallK, DL.vLenS, DL.vRaiX, DL.vRai0, DL.vFld, DL.rMulA, DL.vTryAs, DL.vCallW, DL.vCallH, DL.vBorL, DL.vStar, DL.vRev, DL.rRev, DL.vZip, DL.items2, DL.seqOf, DL.vAsgO, DL.vNilO, DL.vConsO, DL.vOwnO, DL.setO, DL.rSumA, DL.vBoxI, DL.vBoxS, DL.vCells, DL.vPopOr, DL.vScr, DL.vV, DL.vC, DL.vOp, DL.isB, DL.vTest, DL.vAnd, DL.vOr, DL.vNot, DL.vAndV, DL.vOrV, DL.vNotV, DL.vIf, DL.isNon, DL.vIsN, DL.vNotN, DL.vNil, DL.vCons, DL.vTup, DL.vLst, DL.rAdd, DL.rSub, DL.rMul, DL.rInt, DL.rDiv, DL.rMod, DL.rPow, DL.rShl, DL.rLt, DL.rLe, DL.rGt, DL.rGe, DL.vChain, DL.rIx, DL.vIx, DL.vNoPart, DL.isI, DL.vPart, DL.rSl, DL.vSl, DL.vCB, DL.rLen, DL.rAbs, DL.rMax2, DL.rMin2, DL.rIntOf, DL.rListOf, DL.rTupleOf, DL.vNext, DL.vBreak, DL.vCont, DL.vNever, DL.vFrz, DL.vBor, DL.vBorT, DL.vSet, DL.vDrop, DL.vRet, DL.vRetN, DL.vIfS, DL.vNew, DL.vOwn, DL.isL, DL.isIn, DL.isOwnL, DL.vApp, DL.vSto, DL.gV, DL.gT, DL.vRng1, DL.vRng2, DL.vYes, DL.vLc, DL.vCall, DL.vAttr, DL.vIsi, DL.vMk0, DL.vMkX, endsD, endsI, startI, isInsA, putD, capS, List.getElem?_cons_zero, List.getElem?_cons_succ, List.set_cons_zero, List.set_cons_succ, frz, frz1, wipeS, setN, noOwn, DL.isNon, Bool.not_true, Bool.not_false, List.length_cons, List.length_nil, List.map]
        refine ⟨rfl, closed_ok T1 hl hs (by omega) ⟨rfl, ?_⟩⟩
        rw [mi, ma]
        refine is_ok T4 ?_
        dsimp only [DL.vAsg, DL.vFor, DL.vSeqI, DL.vNeg, DL.vPar, DL.vDct, DL.vEnum, DL.vRepL, DL.vRepr, DL.rRepr, DL.vIsiT, DL.vCallK, DL.vLenS, DL.vRaiX, DL.vRai0, DL.vFld, DL.rMulA, DL.vTryAs, DL.vCallW, DL.vCallH, DL.vBorL, DL.vStar, DL.vRev, DL.rRev, DL.vZip, DL.items2, DL.seqOf, DL.vAsgO, DL.vNilO, DL.vConsO, DL.vOwnO, DL.setO, DL.rSumA, DL.vBoxI, DL.vBoxS, DL.vCells, DL.vPopOr, DL.vScr, DL.vV, DL.vC, DL.vOp, DL.isB, DL.vTest, DL.vAnd, DL.vOr, DL.vNot, DL.vAndV, DL.vOrV, DL.vNotV, DL.vIf, DL.isNon, DL.vIsN, DL.vNotN, DL.vNil, DL.vCons, DL.vTup, DL.vLst, DL.rAdd, DL.rSub, DL.rMul, DL.rInt, DL.rDiv, DL.rMod, DL.rPow, DL.rShl, DL.rLt, DL.rLe, DL.rGt, DL.rGe, DL.vChain, DL.rIx, DL.vIx, DL.vNoPart, DL.isI, DL.vPart, DL.rSl, DL.vSl, DL.vCB, DL.rLen, DL.rAbs, DL.rMax2, DL.rMin2, DL.rIntOf, DL.rListOf, DL.rTupleOf, DL.vNext, DL.vBreak, DL.vCont, DL.vNever, DL.vFrz, DL.vBor, DL.vBorT, DL.vSet, DL.vDrop, DL.vRet, DL.vRetN, DL.vIfS, DL.vNew, DL.vOwn, DL.isL, DL.isIn, DL.isOwnL, DL.vApp, DL.vSto, DL.gV, DL.gT, DL.vRng1, DL.vRng2, DL.vYes, DL.vLc, DL.vCall, DL.vAttr, DL.vIsi, DL.vMk0, DL.vMkX, endsD, endsI, startI, isInsA, putD, capS, List.getElem?_cons_zero, List.getElem?_cons_succ, List.set_cons_zero, List.set_cons_succ, frz, frz1, wipeS, setN, noOwn, DL.isNon, Bool.not_true, Bool.not_false, List.length_cons, List.length_nil, List.map]
        refine ⟨rfl, closed_ok T1 hs hl (by omega) ⟨rfl, (rule_mk T4 ?_).1⟩⟩
        rw [mi2, ma2]
        refine ne_rule ?_
        rw [decide_eq_true rfl, decide_eq_true rfl]
        dsimp only [DL.isB, Bool.and_self, Bool.not_true]
        exact ⟨_, _, _, _, _, ha10, rfl⟩
      rintro ss ⟨y10, y11, y13, y14, y15, h10, rfl⟩
      exact ⟨_, _, _, _, _, _, h10, rfl⟩
    rintro ss ⟨y10, y11, y12, y13, y14, y15, h10, rfl⟩
    rw [hV6]
    clear hV6 hW1
    refine seq_hide fun V7 hV7 => ?_
    have fin : ∀ z10 z11 z12 z13 z14 z15 z16 z17 z18 : Sl, (∀ d, z10 ≠ .own d) → V7 { nx := lawI, rt := lawN.rt, bk := V0 lawN, ct := lawI, ex := lawN.ex } [.v (.box 7), .v (.box 0), .v dt, .v (.int p), .v (.int m), .v (.int n), .v (.lst (intsL t1)), .v (.lst (intsL t2)), .v (ruleD C p (.int m) (intsL t1)), .v (ruleD C p (.int n) (intsL t2)), z10, z11, z12, z13, z14, z15, z16, z17, z18, x19, x20, x21] := by
      intro z10 z11 z12 z13 z14 z15 z16 z17 z18 g10
      rw [hV7]
      refine seq_hide fun V8 hV8 => ?_
      dsimp only [DL.vAsg, DL.vFor, DL.vSeqI, DL.vNeg, DL.vPar, DL.vDct, DL.vEnum, DL.vRepL, DL.vRepr, DL.rRepr, DL.vIsiT, DL.vCallK, DL.vLenS, DL.vRaiX, DL.vRai0, DL.vFld, DL.rMulA, DL.vTryAs, DL.vCallW, DL.vCallH, DL.vBorL, DL.vStar, DL.vRev, DL.rRev, DL.vZip, DL.items2, DL.seqOf, DL.vAsgO, DL.vNilO, DL.vConsO, DL.vOwnO, DL.setO, DL.rSumA, DL.vBoxI, DL.vBoxS, DL.vCells, DL.vPopOr, DL.vScr, DL.vV, DL.vC, DL.vOp, DL.isB, DL.vTest, DL.vAnd, DL.vOr, DL.vNot, DL.vAndV, DL.vOrV, DL.vNotV, DL.vIf, DL.isNon, DL.vIsN, DL.vNotN, DL.vNil, DL.vCons, DL.vTup, DL.vLst, DL.rAdd, DL.rSub, DL.rMul, DL.rInt, DL.rDiv, DL.rMod, DL.rPow, DL.rShl, DL.rLt, DL.rLe, DL.rGt, DL.rGe, DL.vChain, DL.rIx, DL.vIx, DL.vNoPart, DL.isI, DL.vPart, DL.rSl, DL.vSl, DL.vCB, DL.rLen, DL.rAbs, DL.rMax2, DL.rMin2, DL.rIntOf, DL.rListOf, DL.rTupleOf, DL.vNext, DL.vBreak, DL.vCont, DL.vNever, DL.vFrz, DL.vBor, DL.vBorT, DL.vSet, DL.vDrop, DL.vRet, DL.vRetN, DL.vIfS, DL.vNew, DL.vOwn, DL.isL, DL.isIn, DL.isOwnL, DL.vApp, DL.vSto, DL.gV, DL.gT, DL.vRng1, DL.vRng2, DL.vYes, DL.vLc, DL.vCall, DL.vAttr, DL.vIsi, DL.vMk0, DL.vMkX, endsD, endsI, startI, isInsA, putD, capS, List.getElem?_cons_zero, List.getElem?_cons_succ, List.set_cons_zero, List.set_cons_succ, frz, frz1, wipeS, setN, noOwn, DL.isNon, Bool.not_true, Bool.not_false, List.length_cons, List.length_nil, List.map]
      refine ⟨by decide, by decide, by decide, rfl, ?_⟩
      rw [show (List.replicate (Int.toNat 256) [D.int 1]).flatten = intsL (List.replicate 256 1) from by rw [flat_one, rep_one]; rfl]
      have TW : Tab p 8 (List.replicate 256 1) := tab_rep hp (by decide) rfl
      refine (rule_mk TW ?_).1
      rw [hV8]
      clear hV8
      refine seq_hide fun V9 hV9 => ?_
      refine for_hide fun W5 hW5 => ?_
      dsimp only [DL.vAsg, DL.vFor, DL.vSeqI, DL.vNeg, DL.vPar, DL.vDct, DL.vEnum, DL.vRepL, DL.vRepr, DL.rRepr, DL.vIsiT, DL.vCallK, DL.vLenS, DL.vRaiX, DL.vRai0, DL.vFld, DL.rMulA, DL.vTryAs, DL.vCallW, DL.vCallH, DL.vBorL, DL.vStar, DL.vRev, DL.rRev, DL.vZip, DL.items2, DL.seqOf, DL.vAsgO, DL.vNilO, DL.vConsO, DL.vOwnO, DL.setO, DL.rSumA, DL.vBoxI, DL.vBoxS, DL.vCells, DL.vPopOr, DL.vScr, DL.vV, DL.vC, DL.vOp, DL.isB, DL.vTest, DL.vAnd, DL.vOr, DL.vNot, DL.vAndV, DL.vOrV, DL.vNotV, DL.vIf, DL.isNon, DL.vIsN, DL.vNotN, DL.vNil, DL.vCons, DL.vTup, DL.vLst, DL.rAdd, DL.rSub, DL.rMul, DL.rInt, DL.rDiv, DL.rMod, DL.rPow, DL.rShl, DL.rLt, DL.rLe, DL.rGt, DL.rGe, DL.vChain, DL.rIx, DL.vIx, DL.vNoPart, DL.isI, DL.vPart, DL.rSl, DL.vSl, DL.vCB, DL.rLen, DL.rAbs, DL.rMax2, DL.rMin2, DL.rIntOf, DL.rListOf, DL.rTupleOf, DL.vNext, DL.vBreak, DL.vCont, DL.vNever, DL.vFrz, DL.vBor, DL.vBorT, DL.vSet, DL.vDrop, DL.vRet, DL.vRetN, DL.vIfS, DL.vNew, DL.vOwn, DL.isL, DL.isIn, DL.isOwnL, DL.vApp, DL.vSto, DL.gV, DL.gT, DL.vRng1, DL.vRng2, DL.vYes, DL.vLc, DL.vCall, DL.vAttr, DL.vIsi, DL.vMk0, DL.vMkX, endsD, endsI, startI, isInsA, putD, capS, List.getElem?_cons_zero, List.getElem?_cons_succ, List.set_cons_zero, List.set_cons_succ, frz, frz1, wipeS, setN, noOwn, DL.isNon, Bool.not_true, Bool.not_false, List.length_cons, List.length_nil, List.map]
      refine ⟨by decide, fun _ ss => ∃ x20 x21 : Sl, ss = [.v (.box 7), .v (.box 0), .v dt, .v (.int p), .v (.int m), .v (.int n), .v (.lst (intsL t1)), .v (.lst (intsL t2)), .v (ruleD C p (.int m) (intsL t1)), .v (ruleD C p (.int n) (intsL t2)), z10, z11, z12, z13, z14, z15, z16, z17, z18, .v (ruleD C p (.int (8 : Nat)) (intsL (List.replicate 256 1))), x20, x21], ⟨_, _, rfl⟩, ?_, ?_⟩
      · rintro i d ss hd ⟨w20, w21, rfl⟩
        have key : ∃ ck : Nat, d = .clo ck cs ∧ ∀ (w21 : Sl) (Q : D → Prop) (Qx : Err → Prop), Qx ⟨(C 3), [("most", .int 8)]⟩ → apF tb cs [.v (.box 7), .v (.box 0), .v dt, .v (.int p), .v (.int m), .v (.int n), .v (.lst (intsL t1)), .v (.lst (intsL t2)), .v (ruleD C p (.int m) (intsL t1)), .v (ruleD C p (.int n) (intsL t2)), z10, z11, z12, z13, z14, z15, z16, z17, z18, .v (ruleD C p (.int (8 : Nat)) (intsL (List.replicate 256 1))), .v (.clo ck cs), w21] (.clo ck cs) [] Q Qx := by
          have h := List.mem_of_getElem? hd
          simp only [List.mem_cons, List.not_mem_nil, or_false] at h
          rcases h with rfl | rfl
          · refine ⟨18, rfl, fun w21 Q Qx hx => ap_clo (congrFun etb _) ⟨rfl, ?_⟩⟩
            dsimp only [DL.vAsg, DL.vFor, DL.vSeqI, DL.vNeg, DL.vPar, DL.vDct, DL.vEnum, DL.vRepL, DL.vRepr, DL.rRepr, DL.vIsiT, DL.vCallK, DL.vLenS, DL.vRaiX, DL.vRai0, DL.vFld, DL.rMulA, DL.vTryAs, DL.vCallW, DL.vCallH, DL.vBorL, DL.vStar, DL.vRev, DL.rRev, DL.vZip, DL.items2, DL.seqOf, DL.vAsgO, DL.vNilO, DL.vConsO, DL.vOwnO, DL.setO, DL.rSumA, DL.vBoxI, DL.vBoxS, DL.vCells, DL.vPopOr, DL.vScr, DL.vV, DL.vC, DL.vOp, DL.isB, DL.vTest, DL.vAnd, DL.vOr, DL.vNot, DL.vAndV, DL.vOrV, DL.vNotV, DL.vIf, DL.isNon, DL.vIsN, DL.vNotN, DL.vNil, DL.vCons, DL.vTup, DL.vLst, DL.rAdd, DL.rSub, DL.rMul, DL.rInt, DL.rDiv, DL.rMod, DL.rPow, DL.rShl, DL.rLt, DL.rLe, DL.rGt, DL.rGe, DL.vChain, DL.rIx, DL.vIx, DL.vNoPart, DL.isI, DL.vPart, DL.rSl, DL.vSl, DL.vCB, DL.rLen, DL.rAbs, DL.rMax2, DL.rMin2, DL.rIntOf, DL.rListOf, DL.rTupleOf, DL.vNext, DL.vBreak, DL.vCont, DL.vNever, DL.vFrz, DL.vBor, DL.vBorT, DL.vSet, DL.vDrop, DL.vRet, DL.vRetN, DL.vIfS, DL.vNew, DL.vOwn, DL.isL, DL.isIn, DL.isOwnL, DL.vApp, DL.vSto, DL.gV, DL.gT, DL.vRng1, DL.vRng2, DL.vYes, DL.vLc, DL.vCall, DL.vAttr, DL.vIsi, DL.vMk0, DL.vMkX, endsD, endsI, startI, isInsA, putD, capS, List.getElem?_cons_zero, List.getElem?_cons_succ, List.set_cons_zero, List.set_cons_succ, frz, frz1, wipeS, setN, noOwn, DL.isNon, Bool.not_true, Bool.not_false, List.length_cons, List.length_nil, List.map, CloT.start]
            have TA : Tab p 1 [1, 0] := ⟨hp, by decide, rfl, fun x hx => by
              simp only [List.mem_cons, List.not_mem_nil, or_false] at hx
              rcases hx with rfl | rfl <;> omega⟩
            exact ⟨by decide, rfl, (rule_mk TA ⟨rfl, beside_many TW TA (by decide) hx⟩).1⟩
          · refine ⟨19, rfl, fun w21 Q Qx hx => ap_clo (congrFun etb _) ⟨rfl, ?_⟩⟩
            dsimp only [DL.vAsg, DL.vFor, DL.vSeqI, DL.vNeg, DL.vPar, DL.vDct, DL.vEnum, DL.vRepL, DL.vRepr, DL.rRepr, DL.vIsiT, DL.vCallK, DL.vLenS, DL.vRaiX, DL.vRai0, DL.vFld, DL.rMulA, DL.vTryAs, DL.vCallW, DL.vCallH, DL.vBorL, DL.vStar, DL.vRev, DL.rRev, DL.vZip, DL.items2, DL.seqOf, DL.vAsgO, DL.vNilO, DL.vConsO, DL.vOwnO, DL.setO, DL.rSumA, DL.vBoxI, DL.vBoxS, DL.vCells, DL.vPopOr, DL.vScr, DL.vV, DL.vC, DL.vOp, DL.isB, DL.vTest, DL.vAnd, DL.vOr, DL.vNot, DL.vAndV, DL.vOrV, DL.vNotV, DL.vIf, DL.isNon, DL.vIsN, DL.vNotN, DL.vNil, DL.vCons, DL.vTup, DL.vLst, DL.rAdd, DL.rSub, DL.rMul, DL.rInt, DL.rDiv, DL.rMod, DL.rPow, DL.rShl, DL.rLt, DL.rLe, DL.rGt, DL.rGe, DL.vChain, DL.rIx, DL.vIx, DL.vNoPart, DL.isI, DL.vPart, DL.rSl, DL.vSl, DL.vCB, DL.rLen, DL.rAbs, DL.rMax2, DL.rMin2, DL.rIntOf, DL.rListOf, DL.rTupleOf, DL.vNext, DL.vBreak, DL.vCont, DL.vNever, DL.vFrz, DL.vBor, DL.vBorT, DL.vSet, DL.vDrop, DL.vRet, DL.vRetN, DL.vIfS, DL.vNew, DL.vOwn, DL.isL, DL.isIn, DL.isOwnL, DL.vApp, DL.vSto, DL.gV, DL.gT, DL.vRng1, DL.vRng2, DL.vYes, DL.vLc, DL.vCall, DL.vAttr, DL.vIsi, DL.vMk0, DL.vMkX, endsD, endsI, startI, isInsA, putD, capS, List.getElem?_cons_zero, List.getElem?_cons_succ, List.set_cons_zero, List.set_cons_succ, frz, frz1, wipeS, setN, noOwn, DL.isNon, Bool.not_true, Bool.not_false, List.length_cons, List.length_nil, List.map, CloT.start, cTake]
            have TB : Tab p 3 (List.replicate 8 1) := tab_rep hp (by decide) rfl
            refine ⟨rfl, _, rfl, by decide, by decide, fun l8 l80 l88 => ⟨by decide, by decide, by decide, rfl, ?_⟩⟩
            obtain ⟨l, rfl⟩ : ∃ l : Nat, l8 = l := ⟨l8.toNat, by omega⟩
            rw [show (List.replicate (Int.toNat 8) [D.int 1]).flatten = intsL (List.replicate 8 1) from by rw [flat_one, rep_one]; rfl]
            exact (rule_mk TB ⟨rfl, joined_many (o := 1) TW TB (by omega) (by decide) (by decide) hx⟩).1
        obtain ⟨ck, rfl, hap⟩ := key
        rw [hW5]
        refine seq_hide fun Va hVa => ?_
        dsimp only [DL.vAsg, DL.vFor, DL.vSeqI, DL.vNeg, DL.vPar, DL.vDct, DL.vEnum, DL.vRepL, DL.vRepr, DL.rRepr, DL.vIsiT, DL.vCallK, DL.vLenS, DL.vRaiX, DL.vRai0, DL.vFld, DL.rMulA, DL.vTryAs, DL.vCallW, DL.vCallH, DL.vBorL, DL.vStar, DL.vRev, DL.rRev, DL.vZip, DL.items2, DL.seqOf, DL.vAsgO, DL.vNilO, DL.vConsO, DL.vOwnO, DL.setO, DL.rSumA, DL.vBoxI, DL.vBoxS, DL.vCells, DL.vPopOr, DL.vScr, DL.vV, DL.vC, DL.vOp, DL.isB, DL.vTest, DL.vAnd, DL.vOr, DL.vNot, DL.vAndV, DL.vOrV, DL.vNotV, DL.vIf, DL.isNon, DL.vIsN, DL.vNotN, DL.vNil, DL.vCons, DL.vTup, DL.vLst, DL.rAdd, DL.rSub, DL.rMul, DL.rInt, DL.rDiv, DL.rMod, DL.rPow, DL.rShl, DL.rLt, DL.rLe, DL.rGt, DL.rGe, DL.vChain, DL.rIx, DL.vIx, DL.vNoPart, DL.isI, DL.vPart, DL.rSl, DL.vSl, DL.vCB, DL.rLen, DL.rAbs, DL.rMax2, DL.rMin2, DL.rIntOf, DL.rListOf, DL.rTupleOf, DL.vNext, DL.vBreak, DL.vCont, DL.vNever, DL.vFrz, DL.vBor, DL.vBorT, DL.vSet, DL.vDrop, DL.vRet, DL.vRetN, DL.vIfS, DL.vNew, DL.vOwn, DL.isL, DL.isIn, DL.isOwnL, DL.vApp, DL.vSto, DL.gV, DL.gT, DL.vRng1, DL.vRng2, DL.vYes, DL.vLc, DL.vCall, DL.vAttr, DL.vIsi, DL.vMk0, DL.vMkX, endsD, endsI, startI, isInsA, putD, capS, List.getElem?_cons_zero, List.getElem?_cons_succ, List.set_cons_zero, List.set_cons_succ, frz, frz1, wipeS, setN, noOwn, DL.isNon, Bool.not_true, Bool.not_false, List.length_cons, List.length_nil, List.map]
        refine ⟨rfl, _, rfl, rfl, hap _ _ _ (caught_yes (excP_in (by decide)) ?_)⟩
        rw [hVa]
        dsimp only [DL.vAsg, DL.vFor, DL.vSeqI, DL.vNeg, DL.vPar, DL.vDct, DL.vEnum, DL.vRepL, DL.vRepr, DL.rRepr, DL.vIsiT, DL.vCallK, DL.vLenS, DL.vRaiX, DL.vRai0, DL.vFld, DL.rMulA, DL.vTryAs, DL.vCallW, DL.vCallH, DL.vBorL, DL.vStar, DL.vRev, DL.rRev, DL.vZip, DL.items2, DL.seqOf, DL.vAsgO, DL.vNilO, DL.vConsO, DL.vOwnO, DL.setO, DL.rSumA, DL.vBoxI, DL.vBoxS, DL.vCells, DL.vPopOr, DL.vScr, DL.vV, DL.vC, DL.vOp, DL.isB, DL.vTest, DL.vAnd, DL.vOr, DL.vNot, DL.vAndV, DL.vOrV, DL.vNotV, DL.vIf, DL.isNon, DL.vIsN, DL.vNotN, DL.vNil, DL.vCons, DL.vTup, DL.vLst, DL.rAdd, DL.rSub, DL.rMul, DL.rInt, DL.rDiv, DL.rMod, DL.rPow, DL.rShl, DL.rLt, DL.rLe, DL.rGt, DL.rGe, DL.vChain, DL.rIx, DL.vIx, DL.vNoPart, DL.isI, DL.vPart, DL.rSl, DL.vSl, DL.vCB, DL.rLen, DL.rAbs, DL.rMax2, DL.rMin2, DL.rIntOf, DL.rListOf, DL.rTupleOf, DL.vNext, DL.vBreak, DL.vCont, DL.vNever, DL.vFrz, DL.vBor, DL.vBorT, DL.vSet, DL.vDrop, DL.vRet, DL.vRetN, DL.vIfS, DL.vNew, DL.vOwn, DL.isL, DL.isIn, DL.isOwnL, DL.vApp, DL.vSto, DL.gV, DL.gT, DL.vRng1, DL.vRng2, DL.vYes, DL.vLc, DL.vCall, DL.vAttr, DL.vIsi, DL.vMk0, DL.vMkX, endsD, endsI, startI, isInsA, putD, capS, List.getElem?_cons_zero, List.getElem?_cons_succ, List.set_cons_zero, List.set_cons_succ, frz, frz1, wipeS, setN, noOwn, DL.isNon, Bool.not_true, Bool.not_false, List.length_cons, List.length_nil, List.map]
        refine isx M (excP_in (by decide)) ?_
        try dsimp only [Bool.not_true]
        refine attr_most rfl M (ne_int_same ?_)
        try dsimp only [DL.isB]
        exact ⟨_, _, rfl⟩
      rintro ss ⟨w20, w21, rfl⟩
      rw [hV9]
      clear hV9 hW5
      dsimp only [DL.vAsg, DL.vFor, DL.vSeqI, DL.vNeg, DL.vPar, DL.vDct, DL.vEnum, DL.vRepL, DL.vRepr, DL.rRepr, DL.vIsiT, DL.vCallK, DL.vLenS, DL.vRaiX, DL.vRai0, DL.vFld, DL.rMulA, DL.vTryAs, DL.vCallW, DL.vCallH, DL.vBorL, DL.vStar, DL.vRev, DL.rRev, DL.vZip, DL.items2, DL.seqOf, DL.vAsgO, DL.vNilO, DL.vConsO, DL.vOwnO, DL.setO, DL.rSumA, DL.vBoxI, DL.vBoxS, DL.vCells, DL.vPopOr, DL.vScr, DL.vV, DL.vC, DL.vOp, DL.isB, DL.vTest, DL.vAnd, DL.vOr, DL.vNot, DL.vAndV, DL.vOrV, DL.vNotV, DL.vIf, DL.isNon, DL.vIsN, DL.vNotN, DL.vNil, DL.vCons, DL.vTup, DL.vLst, DL.rAdd, DL.rSub, DL.rMul, DL.rInt, DL.rDiv, DL.rMod, DL.rPow, DL.rShl, DL.rLt, DL.rLe, DL.rGt, DL.rGe, DL.vChain, DL.rIx, DL.vIx, DL.vNoPart, DL.isI, DL.vPart, DL.rSl, DL.vSl, DL.vCB, DL.rLen, DL.rAbs, DL.rMax2, DL.rMin2, DL.rIntOf, DL.rListOf, DL.rTupleOf, DL.vNext, DL.vBreak, DL.vCont, DL.vNever, DL.vFrz, DL.vBor, DL.vBorT, DL.vSet, DL.vDrop, DL.vRet, DL.vRetN, DL.vIfS, DL.vNew, DL.vOwn, DL.isL, DL.isIn, DL.isOwnL, DL.vApp, DL.vSto, DL.gV, DL.gT, DL.vRng1, DL.vRng2, DL.vYes, DL.vLc, DL.vCall, DL.vAttr, DL.vIsi, DL.vMk0, DL.vMkX, endsD, endsI, startI, isInsA, putD, capS, List.getElem?_cons_zero, List.getElem?_cons_succ, List.set_cons_zero, List.set_cons_succ, frz, frz1, wipeS, setN, noOwn, DL.isNon, Bool.not_true, Bool.not_false, List.length_cons, List.length_nil, List.map]
      have TD : Tab p 2 [1, 0, 0, 1] := ⟨hp, by decide, rfl, fun x hx => by
        simp only [List.mem_cons, List.not_mem_nil, or_false] at hx
        rcases hx with rfl | rfl | rfl | rfl <;> omega⟩
      refine ⟨by decide, rfl, (rule_mk TD ⟨rfl, joined_ok (l := 3) (o := 0) TW TD (by decide) (by decide) (by decide) (ne_rule ?_)⟩).1⟩
      rw [wide_joined hp3, decide_eq_true rfl, decide_eq_true rfl]
      dsimp only [DL.isB, Bool.and_self, Bool.not_true]
      refine ⟨rfl, p, m, n, t1, t2, rfl, T1, T2, ?_⟩
      exact ⟨_, _, _, _, _, _, _, _, _, _, _, _, _, _, _, _, _, _, _, _, g10, rfl⟩
    clear hV7
    refine if_hide fun A1 hA1 B1 hB1 => ?_
    dsimp only [DL.vAsg, DL.vFor, DL.vSeqI, DL.vNeg, DL.vPar, DL.vDct, DL.vEnum, DL.vRepL, DL.vRepr, DL.rRepr, DL.vIsiT, DL.vCallK, DL.vLenS, DL.vRaiX, DL.vRai0, DL.vFld, DL.rMulA, DL.vTryAs, DL.vCallW, DL.vCallH, DL.vBorL, DL.vStar, DL.vRev, DL.rRev, DL.vZip, DL.items2, DL.seqOf, DL.vAsgO, DL.vNilO, DL.vConsO, DL.vOwnO, DL.setO, DL.rSumA, DL.vBoxI, DL.vBoxS, DL.vCells, DL.vPopOr, DL.vScr, DL.vV, DL.vC, DL.vOp, DL.isB, DL.vTest, DL.vAnd, DL.vOr, DL.vNot, DL.vAndV, DL.vOrV, DL.vNotV, DL.vIf, DL.isNon, DL.vIsN, DL.vNotN, DL.vNil, DL.vCons, DL.vTup, DL.vLst, DL.rAdd, DL.rSub, DL.rMul, DL.rInt, DL.rDiv, DL.rMod, DL.rPow, DL.rShl, DL.rLt, DL.rLe, DL.rGt, DL.rGe, DL.vChain, DL.rIx, DL.vIx, DL.vNoPart, DL.isI, DL.vPart, DL.rSl, DL.vSl, DL.vCB, DL.rLen, DL.rAbs, DL.rMax2, DL.rMin2, DL.rIntOf, DL.rListOf, DL.rTupleOf, DL.vNext, DL.vBreak, DL.vCont, DL.vNever, DL.vFrz, DL.vBor, DL.vBorT, DL.vSet, DL.vDrop, DL.vRet, DL.vRetN, DL.vIfS, DL.vNew, DL.vOwn, DL.isL, DL.isIn, DL.isOwnL, DL.vApp, DL.vSto, DL.gV, DL.gT, DL.vRng1, DL.vRng2, DL.vYes, DL.vLc, DL.vCall, DL.vAttr, DL.vIsi, DL.vMk0, DL.vMkX, endsD, endsI, startI, isInsA, putD, capS, List.getElem?_cons_zero, List.getElem?_cons_succ, List.set_cons_zero, List.set_cons_succ, frz, frz1, wipeS, setN, noOwn, DL.isNon, Bool.not_true, Bool.not_false, List.length_cons, List.length_nil, List.map]
    refine ⟨trivial, mb _ (fun m1 => ⟨trivial, mb _ (fun n1 => ?_) (fun _ => ?_)⟩) (fun _ => ?_)⟩
    rotate_left
    · rw [hB1]
      exact fin _ _ _ _ _ _ _ _ _ h10
    · rw [hB1]
      exact fin _ _ _ _ _ _ _ _ _ h10
    have m1 : 0 < m := by have := of_decide_eq_true m1; omega
    have n1 : 0 < n := by have := of_decide_eq_true n1; omega
    rw [hA1]
    clear hA1 hB1
    refine seq_hide fun Va hVa => ?_
    dsimp only [DL.vAsg, DL.vFor, DL.vSeqI, DL.vNeg, DL.vPar, DL.vDct, DL.vEnum, DL.vRepL, DL.vRepr, DL.rRepr, DL.vIsiT, DL.vCallK, DL.vLenS, DL.vRaiX, DL.vRai0, DL.vFld, DL.rMulA, DL.vTryAs, DL.vCallW, DL.vCallH, DL.vBorL, DL.vStar, DL.vRev, DL.rRev, DL.vZip, DL.items2, DL.seqOf, DL.vAsgO, DL.vNilO, DL.vConsO, DL.vOwnO, DL.setO, DL.rSumA, DL.vBoxI, DL.vBoxS, DL.vCells, DL.vPopOr, DL.vScr, DL.vV, DL.vC, DL.vOp, DL.isB, DL.vTest, DL.vAnd, DL.vOr, DL.vNot, DL.vAndV, DL.vOrV, DL.vNotV, DL.vIf, DL.isNon, DL.vIsN, DL.vNotN, DL.vNil, DL.vCons, DL.vTup, DL.vLst, DL.rAdd, DL.rSub, DL.rMul, DL.rInt, DL.rDiv, DL.rMod, DL.rPow, DL.rShl, DL.rLt, DL.rLe, DL.rGt, DL.rGe, DL.vChain, DL.rIx, DL.vIx, DL.vNoPart, DL.isI, DL.vPart, DL.rSl, DL.vSl, DL.vCB, DL.rLen, DL.rAbs, DL.rMax2, DL.rMin2, DL.rIntOf, DL.rListOf, DL.rTupleOf, DL.vNext, DL.vBreak, DL.vCont, DL.vNever, DL.vFrz, DL.vBor, DL.vBorT, DL.vSet, DL.vDrop, DL.vRet, DL.vRetN, DL.vIfS, DL.vNew, DL.vOwn, DL.isL, DL.isIn, DL.isOwnL, DL.vApp, DL.vSto, DL.gV, DL.gT, DL.vRng1, DL.vRng2, DL.vYes, DL.vLc, DL.vCall, DL.vAttr, DL.vIsi, DL.vMk0, DL.vMkX, endsD, endsI, startI, isInsA, putD, capS, List.getElem?_cons_zero, List.getElem?_cons_succ, List.set_cons_zero, List.set_cons_succ, frz, frz1, wipeS, setN, noOwn, DL.isNon, Bool.not_true, Bool.not_false, List.length_cons, List.length_nil, List.map, cTake]
    have eN2 : (m : Int) + (n : Int) - 2 = ((m - 1 + (n - 1) : Nat) : Int) := by omega
    rw [eN2, pow_int, Int.toNat_natCast, flat_one, rep_one]
    have sL : 100000 < sizeLine := by decide
    have pj := pow256 (show m - 1 + (n - 1) ≤ 8 by omega)
    have pj0 := Nat.two_pow_pos (m - 1 + (n - 1))
    refine ⟨rfl, _, rfl, by omega, by omega, fun l' l0 l1 => ⟨rfl, _, rfl, by omega, by omega, fun o' o0 o1 => ⟨by decide, ⟨by omega, by omega, by decide⟩, ?_, ?_, rfl, by decide, ?_⟩⟩⟩
    · generalize 2 ^ (m - 1 + (n - 1)) = z at pj ⊢
      omega
    · generalize 2 ^ (m - 1 + (n - 1)) = z at pj ⊢
      omega
    obtain ⟨l, rfl⟩ : ∃ l : Nat, l' = l := ⟨l'.toNat, by omega⟩
    obtain ⟨o, rfl⟩ : ∃ o : Nat, o' = o := ⟨o'.toNat, by omega⟩
    have hl : l < m := by omega
    have ho : o < n := by omega
    have A := acc_joined m5 n5 hl ho
    rw [hVa]
    clear hVa l0 l1 o0 o1
    refine seq_hide fun Vb hVb => ?_
    refine for_hide fun W3 hW3 => ?_
    dsimp only [DL.vAsg, DL.vFor, DL.vSeqI, DL.vNeg, DL.vPar, DL.vDct, DL.vEnum, DL.vRepL, DL.vRepr, DL.rRepr, DL.vIsiT, DL.vCallK, DL.vLenS, DL.vRaiX, DL.vRai0, DL.vFld, DL.rMulA, DL.vTryAs, DL.vCallW, DL.vCallH, DL.vBorL, DL.vStar, DL.vRev, DL.rRev, DL.vZip, DL.items2, DL.seqOf, DL.vAsgO, DL.vNilO, DL.vConsO, DL.vOwnO, DL.setO, DL.rSumA, DL.vBoxI, DL.vBoxS, DL.vCells, DL.vPopOr, DL.vScr, DL.vV, DL.vC, DL.vOp, DL.isB, DL.vTest, DL.vAnd, DL.vOr, DL.vNot, DL.vAndV, DL.vOrV, DL.vNotV, DL.vIf, DL.isNon, DL.vIsN, DL.vNotN, DL.vNil, DL.vCons, DL.vTup, DL.vLst, DL.rAdd, DL.rSub, DL.rMul, DL.rInt, DL.rDiv, DL.rMod, DL.rPow, DL.rShl, DL.rLt, DL.rLe, DL.rGt, DL.rGe, DL.vChain, DL.rIx, DL.vIx, DL.vNoPart, DL.isI, DL.vPart, DL.rSl, DL.vSl, DL.vCB, DL.rLen, DL.rAbs, DL.rMax2, DL.rMin2, DL.rIntOf, DL.rListOf, DL.rTupleOf, DL.vNext, DL.vBreak, DL.vCont, DL.vNever, DL.vFrz, DL.vBor, DL.vBorT, DL.vSet, DL.vDrop, DL.vRet, DL.vRetN, DL.vIfS, DL.vNew, DL.vOwn, DL.isL, DL.isIn, DL.isOwnL, DL.vApp, DL.vSto, DL.gV, DL.gT, DL.vRng1, DL.vRng2, DL.vYes, DL.vLc, DL.vCall, DL.vAttr, DL.vIsi, DL.vMk0, DL.vMkX, endsD, endsI, startI, isInsA, putD, capS, List.getElem?_cons_zero, List.getElem?_cons_succ, List.set_cons_zero, List.set_cons_succ, frz, frz1, wipeS, setN, noOwn, DL.isNon, Bool.not_true, Bool.not_false, List.length_cons, List.length_nil, List.map]
    rw [eM, Int.toNat_natCast]
    refine ⟨⟨by omega, by omega, by decide⟩, ⟨by omega, by omega⟩, fun t ss => ∃ a14 a15 a10 a16 a17 a18 : Sl, (∀ d, a10 ≠ .own d) ∧ ss = [.v (.box 7), .v (.box 0), .v dt, .v (.int p), .v (.int m), .v (.int n), .v (.lst (intsL t1)), .v (.lst (intsL t2)), .v (ruleD C p (.int m) (intsL t1)), .v (ruleD C p (.int n) (intsL t2)), a10, .own (.lst (intsL (accD (2 ^ (m - 1 + (n - 1))) (gJoined m n l o) (vJoined n t1 t2) p (t * 2 ^ n)))), .v (.int l), .v (.int o), a14, a15, a16, a17, a18, x19, x20, x21], ⟨_, _, _, _, _, _, h10, by rw [Nat.zero_mul, acc_zero]⟩, ?_, ?_⟩
    · rintro k d ss hd ⟨a14, a15, a10, a16, a17, a18, ha10, rfl⟩
      obtain ⟨hk, rfl⟩ := ints_get hd
      have hk : k < 2 ^ m := hk
      rw [Int.zero_add, hW3]
      refine for_hide fun W4 hW4 => ?_
      dsimp only [DL.vAsg, DL.vFor, DL.vSeqI, DL.vNeg, DL.vPar, DL.vDct, DL.vEnum, DL.vRepL, DL.vRepr, DL.rRepr, DL.vIsiT, DL.vCallK, DL.vLenS, DL.vRaiX, DL.vRai0, DL.vFld, DL.rMulA, DL.vTryAs, DL.vCallW, DL.vCallH, DL.vBorL, DL.vStar, DL.vRev, DL.rRev, DL.vZip, DL.items2, DL.seqOf, DL.vAsgO, DL.vNilO, DL.vConsO, DL.vOwnO, DL.setO, DL.rSumA, DL.vBoxI, DL.vBoxS, DL.vCells, DL.vPopOr, DL.vScr, DL.vV, DL.vC, DL.vOp, DL.isB, DL.vTest, DL.vAnd, DL.vOr, DL.vNot, DL.vAndV, DL.vOrV, DL.vNotV, DL.vIf, DL.isNon, DL.vIsN, DL.vNotN, DL.vNil, DL.vCons, DL.vTup, DL.vLst, DL.rAdd, DL.rSub, DL.rMul, DL.rInt, DL.rDiv, DL.rMod, DL.rPow, DL.rShl, DL.rLt, DL.rLe, DL.rGt, DL.rGe, DL.vChain, DL.rIx, DL.vIx, DL.vNoPart, DL.isI, DL.vPart, DL.rSl, DL.vSl, DL.vCB, DL.rLen, DL.rAbs, DL.rMax2, DL.rMin2, DL.rIntOf, DL.rListOf, DL.rTupleOf, DL.vNext, DL.vBreak, DL.vCont, DL.vNever, DL.vFrz, DL.vBor, DL.vBorT, DL.vSet, DL.vDrop, DL.vRet, DL.vRetN, DL.vIfS, DL.vNew, DL.vOwn, DL.isL, DL.isIn, DL.isOwnL, DL.vApp, DL.vSto, DL.gV, DL.gT, DL.vRng1, DL.vRng2, DL.vYes, DL.vLc, DL.vCall, DL.vAttr, DL.vIsi, DL.vMk0, DL.vMkX, endsD, endsI, startI, isInsA, putD, capS, List.getElem?_cons_zero, List.getElem?_cons_succ, List.set_cons_zero, List.set_cons_succ, frz, frz1, wipeS, setN, noOwn, DL.isNon, Bool.not_true, Bool.not_false, List.length_cons, List.length_nil, List.map]
      rw [eN, Int.toNat_natCast]
      refine ⟨⟨by omega, by omega, by decide⟩, ⟨by omega, by omega⟩, fun t ss => ∃ a14 a15 a16 a17 a18 : Sl, ss = [.v (.box 7), .v (.box 0), .v dt, .v (.int p), .v (.int m), .v (.int n), .v (.lst (intsL t1)), .v (.lst (intsL t2)), .v (ruleD C p (.int m) (intsL t1)), .v (ruleD C p (.int n) (intsL t2)), .v (.int k), .own (.lst (intsL (accD (2 ^ (m - 1 + (n - 1))) (gJoined m n l o) (vJoined n t1 t2) p (k * 2 ^ n + t)))), .v (.int l), .v (.int o), a14, a15, a16, a17, a18, x19, x20, x21], ⟨_, _, _, _, _, rfl⟩, ?_, ?_⟩
      · rintro j d ss hd ⟨a14, a15, a16, a17, a18, rfl⟩
        obtain ⟨hj, rfl⟩ := ints_get hd
        have hj : j < 2 ^ n := hj
        obtain ⟨e1, e2⟩ := dm_of (a := k) hj
        have ht : k * 2 ^ n + j < 2 ^ (m + n) := by rw [Nat.pow_add]; exact two_lt hk hj
        rw [Int.zero_add, hW4]
        refine seq_hide fun Va hVa => ?_
        dsimp only [DL.vAsg, DL.vFor, DL.vSeqI, DL.vNeg, DL.vPar, DL.vDct, DL.vEnum, DL.vRepL, DL.vRepr, DL.rRepr, DL.vIsiT, DL.vCallK, DL.vLenS, DL.vRaiX, DL.vRai0, DL.vFld, DL.rMulA, DL.vTryAs, DL.vCallW, DL.vCallH, DL.vBorL, DL.vStar, DL.vRev, DL.rRev, DL.vZip, DL.items2, DL.seqOf, DL.vAsgO, DL.vNilO, DL.vConsO, DL.vOwnO, DL.setO, DL.rSumA, DL.vBoxI, DL.vBoxS, DL.vCells, DL.vPopOr, DL.vScr, DL.vV, DL.vC, DL.vOp, DL.isB, DL.vTest, DL.vAnd, DL.vOr, DL.vNot, DL.vAndV, DL.vOrV, DL.vNotV, DL.vIf, DL.isNon, DL.vIsN, DL.vNotN, DL.vNil, DL.vCons, DL.vTup, DL.vLst, DL.rAdd, DL.rSub, DL.rMul, DL.rInt, DL.rDiv, DL.rMod, DL.rPow, DL.rShl, DL.rLt, DL.rLe, DL.rGt, DL.rGe, DL.vChain, DL.rIx, DL.vIx, DL.vNoPart, DL.isI, DL.vPart, DL.rSl, DL.vSl, DL.vCB, DL.rLen, DL.rAbs, DL.rMax2, DL.rMin2, DL.rIntOf, DL.rListOf, DL.rTupleOf, DL.vNext, DL.vBreak, DL.vCont, DL.vNever, DL.vFrz, DL.vBor, DL.vBorT, DL.vSet, DL.vDrop, DL.vRet, DL.vRetN, DL.vIfS, DL.vNew, DL.vOwn, DL.isL, DL.isIn, DL.isOwnL, DL.vApp, DL.vSto, DL.gV, DL.gT, DL.vRng1, DL.vRng2, DL.vYes, DL.vLc, DL.vCall, DL.vAttr, DL.vIsi, DL.vMk0, DL.vMkX, endsD, endsI, startI, isInsA, putD, capS, List.getElem?_cons_zero, List.getElem?_cons_succ, List.set_cons_zero, List.set_cons_succ, frz, frz1, wipeS, setN, noOwn, DL.isNon, Bool.not_true, Bool.not_false, List.length_cons, List.length_nil, List.map]
        refine ⟨rfl, (k : Int), m, rfl, by omega, rfl, (j : Int), n, rfl, by omega, ?_⟩
        rw [hVa]
        clear hVa
        refine if_hide fun Aa hAa Ba hBa => ?_
        dsimp only [DL.vAsg, DL.vFor, DL.vSeqI, DL.vNeg, DL.vPar, DL.vDct, DL.vEnum, DL.vRepL, DL.vRepr, DL.rRepr, DL.vIsiT, DL.vCallK, DL.vLenS, DL.vRaiX, DL.vRai0, DL.vFld, DL.rMulA, DL.vTryAs, DL.vCallW, DL.vCallH, DL.vBorL, DL.vStar, DL.vRev, DL.rRev, DL.vZip, DL.items2, DL.seqOf, DL.vAsgO, DL.vNilO, DL.vConsO, DL.vOwnO, DL.setO, DL.rSumA, DL.vBoxI, DL.vBoxS, DL.vCells, DL.vPopOr, DL.vScr, DL.vV, DL.vC, DL.vOp, DL.isB, DL.vTest, DL.vAnd, DL.vOr, DL.vNot, DL.vAndV, DL.vOrV, DL.vNotV, DL.vIf, DL.isNon, DL.vIsN, DL.vNotN, DL.vNil, DL.vCons, DL.vTup, DL.vLst, DL.rAdd, DL.rSub, DL.rMul, DL.rInt, DL.rDiv, DL.rMod, DL.rPow, DL.rShl, DL.rLt, DL.rLe, DL.rGt, DL.rGe, DL.vChain, DL.rIx, DL.vIx, DL.vNoPart, DL.isI, DL.vPart, DL.rSl, DL.vSl, DL.vCB, DL.rLen, DL.rAbs, DL.rMax2, DL.rMin2, DL.rIntOf, DL.rListOf, DL.rTupleOf, DL.vNext, DL.vBreak, DL.vCont, DL.vNever, DL.vFrz, DL.vBor, DL.vBorT, DL.vSet, DL.vDrop, DL.vRet, DL.vRetN, DL.vIfS, DL.vNew, DL.vOwn, DL.isL, DL.isIn, DL.isOwnL, DL.vApp, DL.vSto, DL.gV, DL.gT, DL.vRng1, DL.vRng2, DL.vYes, DL.vLc, DL.vCall, DL.vAttr, DL.vIsi, DL.vMk0, DL.vMkX, endsD, endsI, startI, isInsA, putD, capS, List.getElem?_cons_zero, List.getElem?_cons_succ, List.set_cons_zero, List.set_cons_succ, frz, frz1, wipeS, setN, noOwn, DL.isNon, Bool.not_true, Bool.not_false, List.length_cons, List.length_nil, List.map]
        rw [bitN_at hl]
        dsimp only [someD]
        rw [bitN_at ho]
        refine eq_int ?_
        dsimp only [isB]
        refine mb _ (fun e => ?_) fun e => ?_
        rotate_left
        · rw [hBa]
          have ne : hJoined m n l o (k * 2 ^ n + j) = none := by
            unfold hJoined
            rw [e1, e2]
            exact if_neg (by have := of_decide_eq_false e; omega)
          rw [show k * 2 ^ n + (j + 1) = k * 2 ^ n + j + 1 from rfl, acc_no A ne]
          exact ⟨_, _, _, _, _, rfl⟩
        have e : bitN m k l = bitN n j o := by have := of_decide_eq_true e; omega
        have ye : hJoined m n l o (k * 2 ^ n + j) = some (bitN m k l, aIx m l k * 2 ^ (n - 1) + aIx n o j) := by
          unfold hJoined
          rw [e1, e2]
          exact if_pos e
        have hix := (A.to _ _ _ ht ye).2.1
        rw [hAa]
        clear hAa hBa
        refine seq_hide fun Va hVa => ?_
        dsimp only [DL.vAsg, DL.vFor, DL.vSeqI, DL.vNeg, DL.vPar, DL.vDct, DL.vEnum, DL.vRepL, DL.vRepr, DL.rRepr, DL.vIsiT, DL.vCallK, DL.vLenS, DL.vRaiX, DL.vRai0, DL.vFld, DL.rMulA, DL.vTryAs, DL.vCallW, DL.vCallH, DL.vBorL, DL.vStar, DL.vRev, DL.rRev, DL.vZip, DL.items2, DL.seqOf, DL.vAsgO, DL.vNilO, DL.vConsO, DL.vOwnO, DL.setO, DL.rSumA, DL.vBoxI, DL.vBoxS, DL.vCells, DL.vPopOr, DL.vScr, DL.vV, DL.vC, DL.vOp, DL.isB, DL.vTest, DL.vAnd, DL.vOr, DL.vNot, DL.vAndV, DL.vOrV, DL.vNotV, DL.vIf, DL.isNon, DL.vIsN, DL.vNotN, DL.vNil, DL.vCons, DL.vTup, DL.vLst, DL.rAdd, DL.rSub, DL.rMul, DL.rInt, DL.rDiv, DL.rMod, DL.rPow, DL.rShl, DL.rLt, DL.rLe, DL.rGt, DL.rGe, DL.vChain, DL.rIx, DL.vIx, DL.vNoPart, DL.isI, DL.vPart, DL.rSl, DL.vSl, DL.vCB, DL.rLen, DL.rAbs, DL.rMax2, DL.rMin2, DL.rIntOf, DL.rListOf, DL.rTupleOf, DL.vNext, DL.vBreak, DL.vCont, DL.vNever, DL.vFrz, DL.vBor, DL.vBorT, DL.vSet, DL.vDrop, DL.vRet, DL.vRetN, DL.vIfS, DL.vNew, DL.vOwn, DL.isL, DL.isIn, DL.isOwnL, DL.vApp, DL.vSto, DL.gV, DL.gT, DL.vRng1, DL.vRng2, DL.vYes, DL.vLc, DL.vCall, DL.vAttr, DL.vIsi, DL.vMk0, DL.vMkX, endsD, endsI, startI, isInsA, putD, capS, List.getElem?_cons_zero, List.getElem?_cons_succ, List.set_cons_zero, List.set_cons_succ, frz, frz1, wipeS, setN, noOwn, DL.isNon, Bool.not_true, Bool.not_false, List.length_cons, List.length_nil, List.map]
        have bl := bitsAt_len (legs := m) (index := (k : Int))
        have bl2 := bitsAt_len (legs := n) (index := (j : Int))
        rw [show ((l : Int) + 1) = ((l + 1 : Nat) : Int) from rfl, show ((o : Int) + 1) = ((o + 1 : Nat) : Int) from rfl, cut_to, cut_to, cut_from, cut_from, intsL_app, intsL_app, intsL_app]
        refine ⟨?_, ?_, ?_, rfl, _, _, rfl, rfl, ?_⟩
        · rw [intsL_len, intsL_len, List.length_take, List.length_drop]
          omega
        · rw [intsL_len, intsL_len, List.length_append, List.length_take, List.length_drop, List.length_drop]
          omega
        · rw [intsL_len, intsL_len, List.length_append, List.length_append, List.length_take, List.length_drop, List.length_drop, List.length_take]
          omega
        rw [jIx_eq ho, hVa]
        clear hVa
        have x1 := tab_in T1 hk
        have x2 := tab_in T2 hj
        dsimp only [DL.vAsg, DL.vFor, DL.vSeqI, DL.vNeg, DL.vPar, DL.vDct, DL.vEnum, DL.vRepL, DL.vRepr, DL.rRepr, DL.vIsiT, DL.vCallK, DL.vLenS, DL.vRaiX, DL.vRai0, DL.vFld, DL.rMulA, DL.vTryAs, DL.vCallW, DL.vCallH, DL.vBorL, DL.vStar, DL.vRev, DL.rRev, DL.vZip, DL.items2, DL.seqOf, DL.vAsgO, DL.vNilO, DL.vConsO, DL.vOwnO, DL.setO, DL.rSumA, DL.vBoxI, DL.vBoxS, DL.vCells, DL.vPopOr, DL.vScr, DL.vV, DL.vC, DL.vOp, DL.isB, DL.vTest, DL.vAnd, DL.vOr, DL.vNot, DL.vAndV, DL.vOrV, DL.vNotV, DL.vIf, DL.isNon, DL.vIsN, DL.vNotN, DL.vNil, DL.vCons, DL.vTup, DL.vLst, DL.rAdd, DL.rSub, DL.rMul, DL.rInt, DL.rDiv, DL.rMod, DL.rPow, DL.rShl, DL.rLt, DL.rLe, DL.rGt, DL.rGe, DL.vChain, DL.rIx, DL.vIx, DL.vNoPart, DL.isI, DL.vPart, DL.rSl, DL.vSl, DL.vCB, DL.rLen, DL.rAbs, DL.rMax2, DL.rMin2, DL.rIntOf, DL.rListOf, DL.rTupleOf, DL.vNext, DL.vBreak, DL.vCont, DL.vNever, DL.vFrz, DL.vBor, DL.vBorT, DL.vSet, DL.vDrop, DL.vRet, DL.vRetN, DL.vIfS, DL.vNew, DL.vOwn, DL.isL, DL.isIn, DL.isOwnL, DL.vApp, DL.vSto, DL.gV, DL.gT, DL.vRng1, DL.vRng2, DL.vYes, DL.vLc, DL.vCall, DL.vAttr, DL.vIsi, DL.vMk0, DL.vMkX, endsD, endsI, startI, isInsA, putD, capS, List.getElem?_cons_zero, List.getElem?_cons_succ, List.set_cons_zero, List.set_cons_succ, frz, frz1, wipeS, setN, noOwn, DL.isNon, Bool.not_true, Bool.not_false, List.length_cons, List.length_nil, List.map]
        refine ⟨fun i hi => by cases List.mem_singleton.mp hi; exact trivial, ?_⟩
        rw [at_get (by rw [acc_len]; exact hix)]
        dsimp only [someD]
        rw [at_get (by rw [hL1]; exact hk), at_get (by rw [hL2]; exact hj)]
        refine ⟨.inl ⟨by omega, by omega⟩, by omega, rfl, ?_⟩
        rw [intsL_len, acc_len, ixN_nat hix]
        have ev : vJoined n t1 t2 (k * 2 ^ n + j) = t1.getD k 0 * t2.getD j 0 := by
          unfold vJoined
          rw [e1, e2]
        refine ⟨a14, .v (.int (aIx m l k * 2 ^ (n - 1) + aIx n o j : Nat)), .v (.int j), .v (.tup (intsL (bitsAt m k))), .v (.tup (intsL (bitsAt n j))), ?_⟩
        rw [show k * 2 ^ n + (j + 1) = k * 2 ^ n + j + 1 from rfl, acc_yes A ht ye, ← intsL_set, ev]
      rintro ss ⟨a14, a15, a16, a17, a18, rfl⟩
      rw [ints_len]
      refine ⟨a14, a15, .v (.int k), a16, a17, a18, (fun d z => by cases z), ?_⟩
      rw [show (k + 1) * 2 ^ n = k * 2 ^ n + 2 ^ n from Nat.succ_mul _ _]
    rintro ss ⟨a14, a15, a10, a16, a17, a18, ha10, rfl⟩
    rw [ints_len, ← Nat.pow_add, due_joined m5 n5 hl ho, hVb]
    clear hVb hW3
    have T4 : Tab p (m - 1 + (n - 1)) (tabJoined p m n (tabLed m (turnL m l) t1) (tabLed n (turnL n o) t2)) := ⟨hp, by omega, by unfold tabJoined; rw [List.length_map, List.length_range], fun x hx => by
      obtain ⟨i, _, rfl⟩ := List.mem_map.mp hx
      exact ⟨Int.emod_nonneg _ (by omega), Int.emod_lt_of_pos _ (by omega)⟩⟩
    refine seq_hide fun Vb hVb => ?_
    dsimp only [DL.vAsg, DL.vFor, DL.vSeqI, DL.vNeg, DL.vPar, DL.vDct, DL.vEnum, DL.vRepL, DL.vRepr, DL.rRepr, DL.vIsiT, DL.vCallK, DL.vLenS, DL.vRaiX, DL.vRai0, DL.vFld, DL.rMulA, DL.vTryAs, DL.vCallW, DL.vCallH, DL.vBorL, DL.vStar, DL.vRev, DL.rRev, DL.vZip, DL.items2, DL.seqOf, DL.vAsgO, DL.vNilO, DL.vConsO, DL.vOwnO, DL.setO, DL.rSumA, DL.vBoxI, DL.vBoxS, DL.vCells, DL.vPopOr, DL.vScr, DL.vV, DL.vC, DL.vOp, DL.isB, DL.vTest, DL.vAnd, DL.vOr, DL.vNot, DL.vAndV, DL.vOrV, DL.vNotV, DL.vIf, DL.isNon, DL.vIsN, DL.vNotN, DL.vNil, DL.vCons, DL.vTup, DL.vLst, DL.rAdd, DL.rSub, DL.rMul, DL.rInt, DL.rDiv, DL.rMod, DL.rPow, DL.rShl, DL.rLt, DL.rLe, DL.rGt, DL.rGe, DL.vChain, DL.rIx, DL.vIx, DL.vNoPart, DL.isI, DL.vPart, DL.rSl, DL.vSl, DL.vCB, DL.rLen, DL.rAbs, DL.rMax2, DL.rMin2, DL.rIntOf, DL.rListOf, DL.rTupleOf, DL.vNext, DL.vBreak, DL.vCont, DL.vNever, DL.vFrz, DL.vBor, DL.vBorT, DL.vSet, DL.vDrop, DL.vRet, DL.vRetN, DL.vIfS, DL.vNew, DL.vOwn, DL.isL, DL.isIn, DL.isOwnL, DL.vApp, DL.vSto, DL.gV, DL.gT, DL.vRng1, DL.vRng2, DL.vYes, DL.vLc, DL.vCall, DL.vAttr, DL.vIsi, DL.vMk0, DL.vMkX, endsD, endsI, startI, isInsA, putD, capS, List.getElem?_cons_zero, List.getElem?_cons_succ, List.set_cons_zero, List.set_cons_succ, frz, frz1, wipeS, setN, noOwn, DL.isNon, Bool.not_true, Bool.not_false, List.length_cons, List.length_nil, List.map]
    refine ⟨rfl, joined_ok T1 T2 hl ho (by omega) ⟨rfl, ?_⟩⟩
    rw [show m + n - 2 = m - 1 + (n - 1) by omega]
    refine is_ok T4 ?_
    dsimp only [DL.vAsg, DL.vFor, DL.vSeqI, DL.vNeg, DL.vPar, DL.vDct, DL.vEnum, DL.vRepL, DL.vRepr, DL.rRepr, DL.vIsiT, DL.vCallK, DL.vLenS, DL.vRaiX, DL.vRai0, DL.vFld, DL.rMulA, DL.vTryAs, DL.vCallW, DL.vCallH, DL.vBorL, DL.vStar, DL.vRev, DL.rRev, DL.vZip, DL.items2, DL.seqOf, DL.vAsgO, DL.vNilO, DL.vConsO, DL.vOwnO, DL.setO, DL.rSumA, DL.vBoxI, DL.vBoxS, DL.vCells, DL.vPopOr, DL.vScr, DL.vV, DL.vC, DL.vOp, DL.isB, DL.vTest, DL.vAnd, DL.vOr, DL.vNot, DL.vAndV, DL.vOrV, DL.vNotV, DL.vIf, DL.isNon, DL.vIsN, DL.vNotN, DL.vNil, DL.vCons, DL.vTup, DL.vLst, DL.rAdd, DL.rSub, DL.rMul, DL.rInt, DL.rDiv, DL.rMod, DL.rPow, DL.rShl, DL.rLt, DL.rLe, DL.rGt, DL.rGe, DL.vChain, DL.rIx, DL.vIx, DL.vNoPart, DL.isI, DL.vPart, DL.rSl, DL.vSl, DL.vCB, DL.rLen, DL.rAbs, DL.rMax2, DL.rMin2, DL.rIntOf, DL.rListOf, DL.rTupleOf, DL.vNext, DL.vBreak, DL.vCont, DL.vNever, DL.vFrz, DL.vBor, DL.vBorT, DL.vSet, DL.vDrop, DL.vRet, DL.vRetN, DL.vIfS, DL.vNew, DL.vOwn, DL.isL, DL.isIn, DL.isOwnL, DL.vApp, DL.vSto, DL.gV, DL.gT, DL.vRng1, DL.vRng2, DL.vYes, DL.vLc, DL.vCall, DL.vAttr, DL.vIsi, DL.vMk0, DL.vMkX, endsD, endsI, startI, isInsA, putD, capS, List.getElem?_cons_zero, List.getElem?_cons_succ, List.set_cons_zero, List.set_cons_succ, frz, frz1, wipeS, setN, noOwn, DL.isNon, Bool.not_true, Bool.not_false, List.length_cons, List.length_nil, List.map]
    refine ⟨rfl, joined_ok T1 T2 hl ho (by omega) ⟨rfl, (rule_mk T4 (ne_rule ?_)).1⟩⟩
    rw [decide_eq_true rfl, decide_eq_true rfl]
    dsimp only [DL.isB, Bool.and_self, Bool.not_true]
    rw [hVb]
    clear hVb
    dsimp only [DL.vAsg, DL.vFor, DL.vSeqI, DL.vNeg, DL.vPar, DL.vDct, DL.vEnum, DL.vRepL, DL.vRepr, DL.rRepr, DL.vIsiT, DL.vCallK, DL.vLenS, DL.vRaiX, DL.vRai0, DL.vFld, DL.rMulA, DL.vTryAs, DL.vCallW, DL.vCallH, DL.vBorL, DL.vStar, DL.vRev, DL.rRev, DL.vZip, DL.items2, DL.seqOf, DL.vAsgO, DL.vNilO, DL.vConsO, DL.vOwnO, DL.setO, DL.rSumA, DL.vBoxI, DL.vBoxS, DL.vCells, DL.vPopOr, DL.vScr, DL.vV, DL.vC, DL.vOp, DL.isB, DL.vTest, DL.vAnd, DL.vOr, DL.vNot, DL.vAndV, DL.vOrV, DL.vNotV, DL.vIf, DL.isNon, DL.vIsN, DL.vNotN, DL.vNil, DL.vCons, DL.vTup, DL.vLst, DL.rAdd, DL.rSub, DL.rMul, DL.rInt, DL.rDiv, DL.rMod, DL.rPow, DL.rShl, DL.rLt, DL.rLe, DL.rGt, DL.rGe, DL.vChain, DL.rIx, DL.vIx, DL.vNoPart, DL.isI, DL.vPart, DL.rSl, DL.vSl, DL.vCB, DL.rLen, DL.rAbs, DL.rMax2, DL.rMin2, DL.rIntOf, DL.rListOf, DL.rTupleOf, DL.vNext, DL.vBreak, DL.vCont, DL.vNever, DL.vFrz, DL.vBor, DL.vBorT, DL.vSet, DL.vDrop, DL.vRet, DL.vRetN, DL.vIfS, DL.vNew, DL.vOwn, DL.isL, DL.isIn, DL.isOwnL, DL.vApp, DL.vSto, DL.gV, DL.gT, DL.vRng1, DL.vRng2, DL.vYes, DL.vLc, DL.vCall, DL.vAttr, DL.vIsi, DL.vMk0, DL.vMkX, endsD, endsI, startI, isInsA, putD, capS, List.getElem?_cons_zero, List.getElem?_cons_succ, List.set_cons_zero, List.set_cons_succ, frz, frz1, wipeS, setN, noOwn, DL.isNon, Bool.not_true, Bool.not_false, List.length_cons, List.length_nil, List.map]
    have em1 : (m : Int) - 1 = ((m - 1 : Nat) : Int) := by omega
    have er : ((l : Int) + 1) % (m : Int) = (((l + 1) % m : Nat) : Int) := rfl
    have lm : (l + 1) % m < m := Nat.mod_lt _ m1
    rw [em1, er]
    refine ⟨by omega, rfl, turned_ok T1 (by omega) ⟨rfl, turned_ok T2 (by omega) ⟨rfl, beside_ok (tab_led T1) (tab_led T2) (by omega) ⟨rfl, closed_ok ?_ (by omega) (by omega) (by omega) ⟨rfl, (rule_mk T4 ?_).1⟩⟩⟩⟩⟩
    · exact ⟨hp, by omega, by unfold tabBeside; rw [List.length_map, List.length_range], fun x hx => by
        obtain ⟨i, _, rfl⟩ := List.mem_map.mp hx
        exact ⟨Int.emod_nonneg _ (by omega), Int.emod_lt_of_pos _ (by omega)⟩⟩
    rw [show min (m - 1) m = m - 1 by omega, show max (m - 1) m = m by omega, joined_beside m5 n5 hl ho]
    refine ne_rule ?_
    rw [decide_eq_true rfl, decide_eq_true rfl]
    dsimp only [DL.isB, Bool.and_self, Bool.not_true]
    exact fin _ _ _ _ _ _ _ _ _ ha10
  · rintro ss ⟨x2, x3, x4, x5, x6, x7, x8, x9, x10, x11, x12, x13, x14, x15, x16, x17, x18, x19, x20, x21, h10, rfl⟩
    rw [hV0]
    exact rfl

end K03

set_option maxRecDepth 100000
set_option maxHeartbeats 8000000
namespace K03
open PySem PySem.Spec PyProof.Rows L2 LamX NdefX DLX DL
variable {w : World} {K : PySem.W.Frag} {mg : Str → Option Value}
abbrev R : PySem.W.OpenRow := PySem.W.OpenLaw.row PySem.Challenge.rw_onebasis_k03_whole_rules_joined_and_clos
abbrev xi_BadNumber : XI := ⟨46, 43, 42, 31, "__init__", "BadNumber.__init__", s_BadNumber_init, "part"⟩
theorem xt_BadNumber : XIT xi_BadNumber "part" := ⟨⟨_, _, _, _, _, _, _, _, _, _, _, _, rfl, ⟨_, fun _ => rfl⟩, fun _ => rfl, fun _ => rfl⟩, ⟨_, rfl, rfl⟩, ⟨rfl, rfl, rfl, rfl, rfl, rfl, rfl, by decide +kernel, by decide +kernel, by decide +kernel⟩, fun _ _ _ _ _ => ⟨fun _ _ _ => .of_eq rfl, fun _ _ _ => .of_eq rfl⟩⟩
abbrev xi_BadRule : XI := ⟨67, 64, 63, 52, "__init__", "BadRule.__init__", s_BadRule_init, "part"⟩
theorem xt_BadRule : XIT xi_BadRule "part" := ⟨⟨_, _, _, _, _, _, _, _, _, _, _, _, rfl, ⟨_, fun _ => rfl⟩, fun _ => rfl, fun _ => rfl⟩, ⟨_, rfl, rfl⟩, ⟨rfl, rfl, rfl, rfl, rfl, rfl, rfl, by decide +kernel, by decide +kernel, by decide +kernel⟩, fun _ _ _ _ _ => ⟨fun _ _ _ => .of_eq rfl, fun _ _ _ => .of_eq rfl⟩⟩
abbrev xi_TooMany : XI := ⟨88, 85, 84, 73, "__init__", "TooMany.__init__", s_TooMany_init, "most"⟩
theorem xt_TooMany : XIT xi_TooMany "most" := ⟨⟨_, _, _, _, _, _, _, _, _, _, _, _, rfl, ⟨_, fun _ => rfl⟩, fun _ => rfl, fun _ => rfl⟩, ⟨_, rfl, rfl⟩, ⟨rfl, rfl, rfl, rfl, rfl, rfl, rfl, by decide +kernel, by decide +kernel, by decide +kernel⟩, fun _ _ _ _ _ => ⟨fun _ _ _ => .of_eq rfl, fun _ _ _ => .of_eq rfl⟩⟩
def ads : List Addr := ([2, 3, 15, 22, 23, 24, 25, 28, 31, 36, 37, 39, 40, 42, 43, 44, 45, 46, 49, 52, 57, 58, 60, 61, 63, 64, 65, 66, 67, 70, 73, 78, 79, 81, 82, 84, 85, 86, 87, 88] : List (Addr)) ++ ([91, 93, 94, 96, 97, 98, 100, 101, 103, 104, 105, 107, 108, 110, 111, 112, 114, 115, 117, 118, 119, 122, 123, 124, 126, 127, 129, 130, 131, 134, 135, 143, 145, 146, 148, 149, 150, 152, 153, 155] : List (Addr)) ++ ([156, 157, 158, 159, 160, 161, 164, 166, 167, 169, 170, 171, 173, 174, 176, 177, 178, 181, 182, 183, 186, 187, 188, 190, 191, 193, 194, 195, 197, 198, 200, 201, 202, 204, 205, 207, 208, 209, 212, 213] : List (Addr)) ++ ([214, 216, 217, 219, 220, 221, 223, 224, 226, 227, 228, 230, 231, 233, 234, 235, 237, 238, 240, 241, 242, 244, 245, 247, 248, 249, 252, 253, 254, 256, 257, 259, 260, 261, 263, 264, 266, 267, 268, 270] : List (Addr)) ++ ([271, 273, 274, 275, 277, 278, 280, 281, 282, 284, 285, 287, 288, 289, 292, 293, 294, 297, 298, 299, 301, 302, 304, 305, 306, 309, 310, 311, 313, 314, 316, 317, 318, 320, 321, 323, 324, 325, 328, 329] : List (Addr))
def tsl : List Addr := [203, 222, 236, 243, 319, 326]
def ob1 (K : PySem.W.Frag) : List (Option (Option Value)) := ([PySem.W.nsIn K mainGlobals "abs", PySem.W.nsIn K mainGlobals "all", PySem.W.nsIn K mainGlobals "bool", PySem.W.nsIn K mainGlobals "int", PySem.W.nsIn K mainGlobals "isinstance", PySem.W.nsIn K mainGlobals "len", PySem.W.nsIn K mainGlobals "list", PySem.W.nsIn K mainGlobals "max", PySem.W.nsIn K mainGlobals "min", PySem.W.nsIn K mainGlobals "range", PySem.W.nsIn K mainGlobals "repr", PySem.W.nsIn K mainGlobals "sum", PySem.W.nsIn K mainGlobals "tuple", PySem.W.nsIn K mainGlobals "zip", PySem.W.nsIn K mainGlobals "BasisError", PySem.W.nsIn K mainGlobals "BadNumber", PySem.W.nsIn K mainGlobals "BadRule", PySem.W.nsIn K mainGlobals "TooMany", PySem.W.nsIn K mainGlobals "Rule", PySem.W.nsIn K mainGlobals "index_of"] : List (Option (Option Value))) ++ ([PySem.W.nsIn K mainGlobals "is_number", PySem.W.nsIn K mainGlobals "with_legs", PySem.W.nsIn K mainGlobals "legs_of", PySem.W.nsIn K mainGlobals "is_list", PySem.W.nsIn K mainGlobals "bits_at", PySem.W.nsIn K mainGlobals "_law_is_bad", PySem.W.nsIn K mainGlobals "_law_bits", PySem.W.nsIn K mainGlobals "_law_number", PySem.W.nsIn K mainGlobals "_law_begun", PySem.W.nsIn K mainGlobals "_law_mixed", PySem.W.nsIn K mainGlobals "at", PySem.W.nsIn K mainGlobals "need_rule", PySem.W.nsIn K mainGlobals "is_between", PySem.W.nsIn K mainGlobals "_law_is_rule", PySem.W.nsIn K mainGlobals "_law_take", PySem.W.nsIn K mainGlobals "need_leg", PySem.W.nsIn K mainGlobals "is_prime", PySem.W.nsIn K mainGlobals "is_table", PySem.W.nsIn K mainGlobals "need_two", PySem.W.nsIn K mainGlobals "need_between"] : List (Option (Option Value))) ++ ([PySem.W.nsIn K mainGlobals "_law_pick", PySem.W.nsIn K mainGlobals "_law_numbers", PySem.W.nsIn K mainGlobals "_law_prime", PySem.W.nsIn K mainGlobals "made", PySem.W.nsIn K mainGlobals "closed", PySem.W.nsIn K mainGlobals "beside", PySem.W.nsIn K mainGlobals "led", PySem.W.nsIn K mainGlobals "turned", PySem.W.nsIn K mainGlobals "joined", PySem.W.nsIn K mainGlobals "_law_caught", PySem.W.nsIn K mainGlobals "_law_refused", PySem.W.nsIn K mainGlobals "law", PySem.W.findIn K (.ref 46) "part", PySem.W.findIn K (.ref 67) "part", PySem.W.findIn K (.ref 88) "most", PySem.W.findIn K (.ref 159) "prime", PySem.W.findIn K (.ref 159) "legs", PySem.W.findIn K (.ref 159) "table", PySem.W.nsIn K mainGlobals "super", PySem.W.nsIn K cStatics "thirdparty.any"] : List (Option (Option Value))) ++ ([PySem.W.specialIn K (.builtin "object.__class__") "__get__"] : List (Option (Option Value)))
def vl1 : List (Option (Option Value)) := ([some none, some none, some none, some none, some none, some none, some none, some none, some none, some none, some none, some none, some none, some none, some (some (.ref 24)), some (some (.ref 46)), some (some (.ref 67)), some (some (.ref 88)), some (some (.ref 159)), some (some (.ref 177))] : List (Option (Option Value))) ++ ([some (some (.ref 97)), some (some (.ref 234)), some (some (.ref 130)), some (some (.ref 111)), some (some (.ref 182)), some (some (.ref 317)), some (some (.ref 298)), some (some (.ref 305)), some (some (.ref 253)), some (some (.ref 260)), some (some (.ref 194)), some (some (.ref 170)), some (some (.ref 104)), some (some (.ref 310)), some (some (.ref 267)), some (some (.ref 201)), some (some (.ref 123)), some (some (.ref 135)), some (some (.ref 220)), some (some (.ref 118))] : List (Option (Option Value))) ++ ([some (some (.ref 274)), some (some (.ref 293)), some (some (.ref 288)), some (some (.ref 187)), some (some (.ref 241)), some (some (.ref 227)), some (some (.ref 208)), some (some (.ref 213)), some (some (.ref 248)), some (some (.ref 281)), some (some (.ref 324)), some (some (.ref 329)), some none, some none, some none, some none, some none, some none, some none, some none] : List (Option (Option Value))) ++ ([some (some (.builtin "getset_descriptor.__get__"))] : List (Option (Option Value)))
def ob2 (K : PySem.W.Frag) : List Bool := ([excKB K 24 24, PySem.W.excIn K 24 [.type "ValueError", .type "Exception", .type "BaseException", .type "object"] "ValueError.__new__", PySem.W.keepIn K (.ref 24), excKB K 24 46, xiB R.prog K xi_BadNumber, excKB K 24 67, xiB R.prog K xi_BadRule, excKB K 24 88, xiB R.prog K xi_TooMany, insKB K 159, mkB K 159 149, eqB K 159 156, numB K "LEAST_PRIME" 3, numB K "MOST_PRIME" 97, numB K "MOST_LEGS" 8, decide (PySem.W.takesIn K (.builtin "object.__class__") = some true), PySem.W.codeIn K (.ref 155) "Rule.__eq__", PySem.W.keepIn K (.ref 156), PySem.W.codeIn K (.ref 176) "index_of", PySem.W.keepIn K (.ref 177)] : List (Bool)) ++ ([PySem.W.codeIn K (.ref 96) "is_number", PySem.W.keepIn K (.ref 97), PySem.W.codeIn K (.ref 233) "with_legs", PySem.W.keepIn K (.ref 234), PySem.W.codeIn K (.ref 129) "legs_of", PySem.W.keepIn K (.ref 130), PySem.W.codeIn K (.ref 110) "is_list", PySem.W.keepIn K (.ref 111), PySem.W.codeIn K (.ref 181) "bits_at", PySem.W.keepIn K (.ref 182), PySem.W.codeIn K (.ref 316) "_law_is_bad", PySem.W.keepIn K (.ref 317), PySem.W.codeIn K (.ref 297) "_law_bits", PySem.W.keepIn K (.ref 298), PySem.W.codeIn K (.ref 304) "_law_number", PySem.W.keepIn K (.ref 305), PySem.W.codeIn K (.ref 252) "_law_begun", PySem.W.keepIn K (.ref 253), PySem.W.codeIn K (.ref 259) "_law_mixed", PySem.W.keepIn K (.ref 260)] : List (Bool)) ++ ([PySem.W.codeIn K (.ref 193) "at", PySem.W.keepIn K (.ref 194), PySem.W.codeIn K (.ref 169) "need_rule", PySem.W.keepIn K (.ref 170), PySem.W.codeIn K (.ref 103) "is_between", PySem.W.keepIn K (.ref 104), PySem.W.codeIn K (.ref 309) "_law_is_rule", PySem.W.keepIn K (.ref 310), PySem.W.codeIn K (.ref 266) "_law_take", PySem.W.keepIn K (.ref 267), PySem.W.codeIn K (.ref 200) "need_leg", PySem.W.keepIn K (.ref 201), PySem.W.codeIn K (.ref 122) "is_prime", PySem.W.keepIn K (.ref 123), PySem.W.codeIn K (.ref 134) "is_table", PySem.W.keepIn K (.ref 135), PySem.W.codeIn K (.ref 219) "need_two", PySem.W.keepIn K (.ref 220), PySem.W.codeIn K (.ref 117) "need_between", PySem.W.keepIn K (.ref 118)] : List (Bool)) ++ ([PySem.W.codeIn K (.ref 273) "_law_pick", PySem.W.keepIn K (.ref 274), PySem.W.codeIn K (.ref 148) "Rule.__init__", PySem.W.keepIn K (.ref 149), PySem.W.codeIn K (.ref 292) "_law_numbers", PySem.W.keepIn K (.ref 293), PySem.W.codeIn K (.ref 287) "_law_prime", PySem.W.keepIn K (.ref 288), PySem.W.codeIn K (.ref 186) "made", PySem.W.keepIn K (.ref 187), PySem.W.codeIn K (.ref 240) "closed", PySem.W.keepIn K (.ref 241), PySem.W.codeIn K (.ref 226) "beside", PySem.W.keepIn K (.ref 227), PySem.W.codeIn K (.ref 207) "led", PySem.W.keepIn K (.ref 208), PySem.W.codeIn K (.ref 212) "turned", PySem.W.keepIn K (.ref 213), PySem.W.codeIn K (.ref 247) "joined", PySem.W.keepIn K (.ref 248)] : List (Bool)) ++ ([PySem.W.codeIn K (.ref 280) "_law_caught", PySem.W.keepIn K (.ref 281), PySem.W.codeIn K (.ref 323) "_law_refused", PySem.W.keepIn K (.ref 324), PySem.W.codeIn K (.ref 328) "law", PySem.W.keepIn K (.ref 329), tabB K 207 203, tabB K 226 222, tabB K 240 236, tabB K 247 243, tabB K 323 319, tabB K 328 326] : List (Bool))
def vl2 : List Bool := List.replicate 92 true
def ob3 (K : PySem.W.Frag) : List FnX := ([xiF K xi_BadNumber, xiF K xi_BadRule, xiF K xi_TooMany, fnX K 156, fnX K 177, fnX K 97, fnX K 234, fnX K 130, fnX K 111, fnX K 182, fnX K 317, fnX K 298, fnX K 305, fnX K 253, fnX K 260, fnX K 194, fnX K 170, fnX K 104, fnX K 310, fnX K 267] : List (FnX)) ++ ([fnX K 201, fnX K 123, fnX K 135, fnX K 220, fnX K 118, fnX K 274, fnX K 149, fnX K 293, fnX K 288, fnX K 187, fnX K 241, fnX K 227, fnX K 208, fnX K 213, fnX K 248, fnX K 281, fnX K 324, fnX K 329] : List (FnX))
def vl3 : List FnX := ([xi_BadNumber.val, xi_BadRule.val, xi_TooMany.val, defQ "__eq__" "Rule.__eq__" s_Rule_eq 155, defQ "index_of" "index_of" s_index_of 176, defQ "is_number" "is_number" s_is_number 96, defQ "with_legs" "with_legs" s_with_legs 233, defQ "legs_of" "legs_of" s_legs_of 129, defQ "is_list" "is_list" s_is_list 110, defQ "bits_at" "bits_at" s_bits_at 181, defQ "_law_is_bad" "_law_is_bad" s_law_is_bad 316, defQ "_law_bits" "_law_bits" s_law_bits 297, defQ "_law_number" "_law_number" s_law_number 304, defQ "_law_begun" "_law_begun" s_law_begun 252, defQ "_law_mixed" "_law_mixed" s_law_mixed 259, defQ "at" "at" s_at 193, defQ "need_rule" "need_rule" s_need_rule 169, defQ "is_between" "is_between" s_is_between 103, defQ "_law_is_rule" "_law_is_rule" s_law_is_rule 309, defQ "_law_take" "_law_take" s_law_take 266] : List (FnX)) ++ ([defQ "need_leg" "need_leg" s_need_leg 200, defQ "is_prime" "is_prime" s_is_prime 122, defQ "is_table" "is_table" s_is_table 134, defQ "need_two" "need_two" s_need_two 219, defQ "need_between" "need_between" s_need_between 117, defQ "_law_pick" "_law_pick" s_law_pick 273, defQ "__init__" "Rule.__init__" s_Rule_init 148, defQ "_law_numbers" "_law_numbers" s_law_numbers 292, defQ "_law_prime" "_law_prime" s_law_prime 287, defQ "made" "made" s_made 186, defQ "closed" "closed" s_closed 240, defQ "beside" "beside" s_beside 226, defQ "led" "led" s_led 207, defQ "turned" "turned" s_turned 212, defQ "joined" "joined" s_joined 247, defQ "_law_caught" "_law_caught" s_law_caught 280, defQ "_law_refused" "_law_refused" s_law_refused 323, defQ "law" "law" s_law 328] : List (FnX))
def obA (K : PySem.W.Frag) : AlL := (ob1 K, ob2 K, ob3 K)
def vlA : AlL := (vl1, vl2, vl3)
abbrev hk : PySem.W.Hook := hookT ads tsl obA vlA
def ob (s : PySem.W.SharedT) : AlL × List (Option Obj) := (obA (He.frG (HandSHeadRun.getT s) ads), tsl.map (HandSHeadRun.getT s))
theorem ob_eq (s : PySem.W.SharedT) : ob s = hk.obs s.abs := obT_eq s
def loose : List PySem.Str := (["BasisError", "BadNumber", "BadRule", "TooMany", "is_number", "is_between", "is_list", "need_between", "is_prime", "legs_of", "is_table", "Rule", "need_rule", "index_of", "bits_at", "made", "at", "need_leg", "led", "turned", "need_two", "beside", "with_legs", "closed", "joined", "_law_begun", "_law_mixed", "_law_take", "_law_pick", "_law_caught"] : List (PySem.Str)) ++ (["_law_prime", "_law_numbers", "_law_bits", "_law_number", "_law_is_rule", "_law_is_bad", "_law_refused", "LEAST_PRIME", "MOST_PRIME", "MOST_LEGS"] : List (PySem.Str))

end K03

set_option maxRecDepth 100000
set_option maxHeartbeats 8000000
namespace K03
open PySem PySem.Spec PyProof.Rows L2 LamX NdefX DLX DL
variable {w : World} {K : PySem.W.Frag} {mg : Str → Option Value}
theorem run (w : World) : HandSHeadRun.RunEq R (PySem.W.view R.prog [44]) hk ob 10000 loose w := by
  intro os
  kernel_rfl

end K03

set_option maxRecDepth 100000
set_option maxHeartbeats 8000000
namespace K03
open PySem PySem.Spec PyProof.Rows L2 LamX NdefX DLX DL
variable {w : World} {K : PySem.W.Frag} {mg : Str → Option Value}
def Cs : Nat → Addr := fun i => [24, 46, 67, 88, 159].getD i 0
def Ts : Nat → Addr := fun i => [203, 222, 236, 243, 319, 326].getD i 0
theorem facts {h : Heap} {fa : Addr} (KX : K.In h) (G : h.Ns mainGlobals mg) (hfa : mg "law" = some (.ref fa)) (c : obA K = vlA) :
    ∃ (cs : List (Addr × Addr)) (fd : FuncData) (sp : Sp), (∀ p ∈ cs, p.2 ∈ tsl) ∧ (∀ p ∈ cs, K.lookup p.2 = none) ∧ (∀ p ∈ cs, PySem.W.CodeHd h p.1 p.2) ∧ (∀ (s : Shared) (u : Value), BindsTo s fd ⟨[u], []⟩ [(("script" : Str), u)]) ∧
      (∀ (H : Hp) (a : Addr) (ns : List Int), ns.length ≤ 63 → (∀ p ∈ cs, H p.2 = some (.tbl #[])) → SqL K H a (ns.map V.int) → sp [.ref a] H (fun v _ => v = .bl true) fun _ _ _ => False) ∧
      ∀ base : Heap, K.In base → base.Ns mainGlobals mg → (∀ p ∈ cs, TabB base mg p.1 p.2) → FnG R.prog w K mg base (L2.CX R.prog w) 13 fa fd ["script"] sp := by
  have c1 : ob1 K = vl1 := congrArg (fun z : AlL => z.1) c
  have c2 : ob2 K = vl2 := congrArg (fun z : AlL => z.2.1) c
  have c3 : ob3 K = vl3 := congrArg (fun z : AlL => z.2.2) c
  have e := hfa.symm.trans (PySem.W.mg_of KX G (DL.at_ c1 51 rfl rfl))
  cases e
  have sup : PySem.W.nsIn K mainGlobals "super" = some none := (DL.at_ c1 58 rfl rfl)
  have opq : PySem.W.nsIn K cStatics "thirdparty.any" = some none := (DL.at_ c1 59 rfl rfl)
  have ot : PySem.W.takesIn K (.builtin "object.__class__") = some true := of_decide_eq_true (DL.at_ c2 15 rfl rfl)
  have M0 : MB mg := ⟨PySem.W.mg_none_of KX G (DL.at_ c1 0 rfl rfl), PySem.W.mg_none_of KX G (DL.at_ c1 3 rfl rfl), PySem.W.mg_none_of KX G (DL.at_ c1 5 rfl rfl), PySem.W.mg_none_of KX G (DL.at_ c1 9 rfl rfl)⟩
  have M : ∀ base, MC R.prog w K mg base Cs := fun base => {
    b_abs := PySem.W.mg_none_of KX G (DL.at_ c1 0 rfl rfl)
    b_all := PySem.W.mg_none_of KX G (DL.at_ c1 1 rfl rfl)
    b_bool := PySem.W.mg_none_of KX G (DL.at_ c1 2 rfl rfl)
    b_int := PySem.W.mg_none_of KX G (DL.at_ c1 3 rfl rfl)
    b_isinstance := PySem.W.mg_none_of KX G (DL.at_ c1 4 rfl rfl)
    b_len := PySem.W.mg_none_of KX G (DL.at_ c1 5 rfl rfl)
    b_list := PySem.W.mg_none_of KX G (DL.at_ c1 6 rfl rfl)
    b_max := PySem.W.mg_none_of KX G (DL.at_ c1 7 rfl rfl)
    b_min := PySem.W.mg_none_of KX G (DL.at_ c1 8 rfl rfl)
    b_range := PySem.W.mg_none_of KX G (DL.at_ c1 9 rfl rfl)
    b_repr := PySem.W.mg_none_of KX G (DL.at_ c1 10 rfl rfl)
    b_sum := PySem.W.mg_none_of KX G (DL.at_ c1 11 rfl rfl)
    b_tuple := PySem.W.mg_none_of KX G (DL.at_ c1 12 rfl rfl)
    b_zip := PySem.W.mg_none_of KX G (DL.at_ c1 13 rfl rfl)
    c_BasisError := PySem.W.mg_of KX G (DL.at_ c1 14 rfl rfl)
    c_BadNumber := PySem.W.mg_of KX G (DL.at_ c1 15 rfl rfl)
    c_BadRule := PySem.W.mg_of KX G (DL.at_ c1 16 rfl rfl)
    c_TooMany := PySem.W.mg_of KX G (DL.at_ c1 17 rfl rfl)
    c_Rule := PySem.W.mg_of KX G (DL.at_ c1 18 rfl rfl)
    e_BasisError := excKB_ok (DL.at_ c2 0 rfl rfl)
    x_BasisError := (DL.at_ c2 1 rfl rfl)
    k_BasisError := (DL.at_ c2 2 rfl rfl)
    e_BadNumber := excKB_ok (DL.at_ c2 3 rfl rfl)
    i_BadNumber := xi_ok (Pr := R.prog) (i := xi_BadNumber) (DL.at_ c2 4 rfl rfl) (DL.at_ c3 0 rfl rfl) xt_BadNumber (by decide +kernel) sup opq
    a_BadNumber_part := (DL.at_ c1 52 rfl rfl)
    e_BadRule := excKB_ok (DL.at_ c2 5 rfl rfl)
    i_BadRule := xi_ok (Pr := R.prog) (i := xi_BadRule) (DL.at_ c2 6 rfl rfl) (DL.at_ c3 1 rfl rfl) xt_BadRule (by decide +kernel) sup opq
    a_BadRule_part := (DL.at_ c1 53 rfl rfl)
    e_TooMany := excKB_ok (DL.at_ c2 7 rfl rfl)
    i_TooMany := xi_ok (Pr := R.prog) (i := xi_TooMany) (DL.at_ c2 8 rfl rfl) (DL.at_ c3 2 rfl rfl) xt_TooMany (by decide +kernel) sup opq
    a_TooMany_most := (DL.at_ c1 54 rfl rfl)
    o_Rule := insKB_ok (DL.at_ c2 9 rfl rfl)
    a_Rule_prime := (DL.at_ c1 55 rfl rfl)
    a_Rule_legs := (DL.at_ c1 56 rfl rfl)
    a_Rule_table := (DL.at_ c1 57 rfl rfl)
    m_LEAST_PRIME := numB_ok KX G (DL.at_ c2 12 rfl rfl)
    m_MOST_PRIME := numB_ok KX G (DL.at_ c2 13 rfl rfl)
    m_MOST_LEGS := numB_ok KX G (DL.at_ c2 14 rfl rfl)
    inj := fun i j hi hj e => by
      have q : ∀ i j : Fin 5, Cs i.1 = Cs j.1 → i = j := by decide +kernel
      exact congrArg Fin.val (q ⟨i, hi⟩ ⟨j, hj⟩ e)
    og := (DL.at_ c1 60 rfl rfl)
    ot := ot }
  obtain ⟨fd_Rule_eq, Fn_Rule_eq, hc_Rule_eq⟩ := def_okQ (K := K) (x := "__eq__") (qual := "Rule.__eq__") (st := s_Rule_eq) (f := 156) (cd := 155) (DL.at_ c3 3 rfl rfl) (DL.at_ c2 16 rfl rfl) (DL.at_ c2 17 rfl rfl)
  have B_Rule_eq : Binds K fd_Rule_eq ["self", "other"] [] := Fn_Rule_eq.binds fun _ _ _ _ _ _ us hl => match us, hl with | [_, _], _ => rfl
  obtain ⟨fd_index_of, Fn_index_of, hc_index_of⟩ := def_okQ (K := K) (x := "index_of") (qual := "index_of") (st := s_index_of) (f := 177) (cd := 176) (DL.at_ c3 4 rfl rfl) (DL.at_ c2 18 rfl rfl) (DL.at_ c2 19 rfl rfl)
  have B_index_of : Binds K fd_index_of ["bits"] [] := Fn_index_of.binds fun _ _ _ _ _ _ us hl => match us, hl with | [_], _ => rfl
  obtain ⟨fd_is_number, Fn_is_number, hc_is_number⟩ := def_okQ (K := K) (x := "is_number") (qual := "is_number") (st := s_is_number) (f := 97) (cd := 96) (DL.at_ c3 5 rfl rfl) (DL.at_ c2 20 rfl rfl) (DL.at_ c2 21 rfl rfl)
  have B_is_number : Binds K fd_is_number ["thing"] [] := Fn_is_number.binds fun _ _ _ _ _ _ us hl => match us, hl with | [_], _ => rfl
  obtain ⟨fd_with_legs, Fn_with_legs, hc_with_legs⟩ := def_okQ (K := K) (x := "with_legs") (qual := "with_legs") (st := s_with_legs) (f := 234) (cd := 233) (DL.at_ c3 6 rfl rfl) (DL.at_ c2 22 rfl rfl) (DL.at_ c2 23 rfl rfl)
  have B_with_legs : Binds K fd_with_legs ["bits", "one", "other", "bit"] [] := Fn_with_legs.binds fun _ _ _ _ _ _ us hl => match us, hl with | [_, _, _, _], _ => rfl
  obtain ⟨fd_legs_of, Fn_legs_of, hc_legs_of⟩ := def_okQ (K := K) (x := "legs_of") (qual := "legs_of") (st := s_legs_of) (f := 130) (cd := 129) (DL.at_ c3 7 rfl rfl) (DL.at_ c2 24 rfl rfl) (DL.at_ c2 25 rfl rfl)
  have B_legs_of : Binds K fd_legs_of ["many"] [] := Fn_legs_of.binds fun _ _ _ _ _ _ us hl => match us, hl with | [_], _ => rfl
  obtain ⟨fd_is_list, Fn_is_list, hc_is_list⟩ := def_okQ (K := K) (x := "is_list") (qual := "is_list") (st := s_is_list) (f := 111) (cd := 110) (DL.at_ c3 8 rfl rfl) (DL.at_ c2 26 rfl rfl) (DL.at_ c2 27 rfl rfl)
  have B_is_list : Binds K fd_is_list ["thing"] [] := Fn_is_list.binds fun _ _ _ _ _ _ us hl => match us, hl with | [_], _ => rfl
  obtain ⟨fd_bits_at, Fn_bits_at, hc_bits_at⟩ := def_okQ (K := K) (x := "bits_at") (qual := "bits_at") (st := s_bits_at) (f := 182) (cd := 181) (DL.at_ c3 9 rfl rfl) (DL.at_ c2 28 rfl rfl) (DL.at_ c2 29 rfl rfl)
  have B_bits_at : Binds K fd_bits_at ["legs", "index"] [] := Fn_bits_at.binds fun _ _ _ _ _ _ us hl => match us, hl with | [_, _], _ => rfl
  obtain ⟨fd__law_is_bad, Fn__law_is_bad, hc__law_is_bad⟩ := def_okQ (K := K) (x := "_law_is_bad") (qual := "_law_is_bad") (st := s_law_is_bad) (f := 317) (cd := 316) (DL.at_ c3 10 rfl rfl) (DL.at_ c2 30 rfl rfl) (DL.at_ c2 31 rfl rfl)
  have B__law_is_bad : Binds K fd__law_is_bad ["caught", "kind_here"] [] := Fn__law_is_bad.binds fun _ _ _ _ _ _ us hl => match us, hl with | [_, _], _ => rfl
  obtain ⟨fd__law_bits, Fn__law_bits, hc__law_bits⟩ := def_okQ (K := K) (x := "_law_bits") (qual := "_law_bits") (st := s_law_bits) (f := 298) (cd := 297) (DL.at_ c3 11 rfl rfl) (DL.at_ c2 32 rfl rfl) (DL.at_ c2 33 rfl rfl)
  have B__law_bits : Binds K fd__law_bits ["number", "many"] [] := Fn__law_bits.binds fun _ _ _ _ _ _ us hl => match us, hl with | [_, _], _ => rfl
  obtain ⟨fd__law_number, Fn__law_number, hc__law_number⟩ := def_okQ (K := K) (x := "_law_number") (qual := "_law_number") (st := s_law_number) (f := 305) (cd := 304) (DL.at_ c3 12 rfl rfl) (DL.at_ c2 34 rfl rfl) (DL.at_ c2 35 rfl rfl)
  have B__law_number : Binds K fd__law_number ["bits"] [] := Fn__law_number.binds fun _ _ _ _ _ _ us hl => match us, hl with | [_], _ => rfl
  obtain ⟨fd__law_begun, Fn__law_begun, hc__law_begun⟩ := def_okQ (K := K) (x := "_law_begun") (qual := "_law_begun") (st := s_law_begun) (f := 253) (cd := 252) (DL.at_ c3 13 rfl rfl) (DL.at_ c2 36 rfl rfl) (DL.at_ c2 37 rfl rfl)
  have B__law_begun : Binds K fd__law_begun ["script"] [] := Fn__law_begun.binds fun _ _ _ _ _ _ us hl => match us, hl with | [_], _ => rfl
  obtain ⟨fd__law_mixed, Fn__law_mixed, hc__law_mixed⟩ := def_okQ (K := K) (x := "_law_mixed") (qual := "_law_mixed") (st := s_law_mixed) (f := 260) (cd := 259) (DL.at_ c3 14 rfl rfl) (DL.at_ c2 38 rfl rfl) (DL.at_ c2 39 rfl rfl)
  have B__law_mixed : Binds K fd__law_mixed ["draw"] [] := Fn__law_mixed.binds fun _ _ _ _ _ _ us hl => match us, hl with | [_], _ => rfl
  obtain ⟨fd_at, Fn_at, hc_at⟩ := def_okQ (K := K) (x := "at") (qual := "at") (st := s_at) (f := 194) (cd := 193) (DL.at_ c3 15 rfl rfl) (DL.at_ c2 40 rfl rfl) (DL.at_ c2 41 rfl rfl)
  have B_at : Binds K fd_at ["rule", "bits"] [] := Fn_at.binds fun _ _ _ _ _ _ us hl => match us, hl with | [_, _], _ => rfl
  obtain ⟨fd_need_rule, Fn_need_rule, hc_need_rule⟩ := def_okQ (K := K) (x := "need_rule") (qual := "need_rule") (st := s_need_rule) (f := 170) (cd := 169) (DL.at_ c3 16 rfl rfl) (DL.at_ c2 42 rfl rfl) (DL.at_ c2 43 rfl rfl)
  have B_need_rule : Binds K fd_need_rule ["thing"] [] := Fn_need_rule.binds fun _ _ _ _ _ _ us hl => match us, hl with | [_], _ => rfl
  obtain ⟨fd_is_between, Fn_is_between, hc_is_between⟩ := def_okQ (K := K) (x := "is_between") (qual := "is_between") (st := s_is_between) (f := 104) (cd := 103) (DL.at_ c3 17 rfl rfl) (DL.at_ c2 44 rfl rfl) (DL.at_ c2 45 rfl rfl)
  have B_is_between : Binds K fd_is_between ["thing", "low", "high"] [] := Fn_is_between.binds fun _ _ _ _ _ _ us hl => match us, hl with | [_, _, _], _ => rfl
  obtain ⟨fd__law_is_rule, Fn__law_is_rule, hc__law_is_rule⟩ := def_okQ (K := K) (x := "_law_is_rule") (qual := "_law_is_rule") (st := s_law_is_rule) (f := 310) (cd := 309) (DL.at_ c3 18 rfl rfl) (DL.at_ c2 46 rfl rfl) (DL.at_ c2 47 rfl rfl)
  have B__law_is_rule : Binds K fd__law_is_rule ["thing", "prime_here", "table_here"] [] := Fn__law_is_rule.binds fun _ _ _ _ _ _ us hl => match us, hl with | [_, _, _], _ => rfl
  obtain ⟨fd__law_take, Fn__law_take, hc__law_take⟩ := def_okQ (K := K) (x := "_law_take") (qual := "_law_take") (st := s_law_take) (f := 267) (cd := 266) (DL.at_ c3 19 rfl rfl) (DL.at_ c2 48 rfl rfl) (DL.at_ c2 49 rfl rfl)
  have B__law_take : Binds K fd__law_take ["draw", "amount"] [] := Fn__law_take.binds fun _ _ _ _ _ _ us hl => match us, hl with | [_, _], _ => rfl
  obtain ⟨fd_need_leg, Fn_need_leg, hc_need_leg⟩ := def_okQ (K := K) (x := "need_leg") (qual := "need_leg") (st := s_need_leg) (f := 201) (cd := 200) (DL.at_ c3 20 rfl rfl) (DL.at_ c2 50 rfl rfl) (DL.at_ c2 51 rfl rfl)
  have B_need_leg : Binds K fd_need_leg ["rule", "leg", "part"] [] := Fn_need_leg.binds fun _ _ _ _ _ _ us hl => match us, hl with | [_, _, _], _ => rfl
  obtain ⟨fd_is_prime, Fn_is_prime, hc_is_prime⟩ := def_okQ (K := K) (x := "is_prime") (qual := "is_prime") (st := s_is_prime) (f := 123) (cd := 122) (DL.at_ c3 21 rfl rfl) (DL.at_ c2 52 rfl rfl) (DL.at_ c2 53 rfl rfl)
  have B_is_prime : Binds K fd_is_prime ["thing"] [] := Fn_is_prime.binds fun _ _ _ _ _ _ us hl => match us, hl with | [_], _ => rfl
  obtain ⟨fd_is_table, Fn_is_table, hc_is_table⟩ := def_okQ (K := K) (x := "is_table") (qual := "is_table") (st := s_is_table) (f := 135) (cd := 134) (DL.at_ c3 22 rfl rfl) (DL.at_ c2 54 rfl rfl) (DL.at_ c2 55 rfl rfl)
  have B_is_table : Binds K fd_is_table ["prime", "thing"] [] := Fn_is_table.binds fun _ _ _ _ _ _ us hl => match us, hl with | [_, _], _ => rfl
  obtain ⟨fd_need_two, Fn_need_two, hc_need_two⟩ := def_okQ (K := K) (x := "need_two") (qual := "need_two") (st := s_need_two) (f := 220) (cd := 219) (DL.at_ c3 23 rfl rfl) (DL.at_ c2 56 rfl rfl) (DL.at_ c2 57 rfl rfl)
  have B_need_two : Binds K fd_need_two ["rule", "other"] [] := Fn_need_two.binds fun _ _ _ _ _ _ us hl => match us, hl with | [_, _], _ => rfl
  obtain ⟨fd_need_between, Fn_need_between, hc_need_between⟩ := def_okQ (K := K) (x := "need_between") (qual := "need_between") (st := s_need_between) (f := 118) (cd := 117) (DL.at_ c3 24 rfl rfl) (DL.at_ c2 58 rfl rfl) (DL.at_ c2 59 rfl rfl)
  have B_need_between : Binds K fd_need_between ["number", "low", "high", "part"] [] := Fn_need_between.binds fun _ _ _ _ _ _ us hl => match us, hl with | [_, _, _, _], _ => rfl
  obtain ⟨fd__law_pick, Fn__law_pick, hc__law_pick⟩ := def_okQ (K := K) (x := "_law_pick") (qual := "_law_pick") (st := s_law_pick) (f := 274) (cd := 273) (DL.at_ c3 25 rfl rfl) (DL.at_ c2 60 rfl rfl) (DL.at_ c2 61 rfl rfl)
  have B__law_pick : Binds K fd__law_pick ["draw", "some"] [] := Fn__law_pick.binds fun _ _ _ _ _ _ us hl => match us, hl with | [_, _], _ => rfl
  obtain ⟨fd_Rule_init, Fn_Rule_init, hc_Rule_init⟩ := def_okQ (K := K) (x := "__init__") (qual := "Rule.__init__") (st := s_Rule_init) (f := 149) (cd := 148) (DL.at_ c3 26 rfl rfl) (DL.at_ c2 62 rfl rfl) (DL.at_ c2 63 rfl rfl)
  have B_Rule_init : Binds K fd_Rule_init ["self", "prime", "table"] [] := Fn_Rule_init.binds fun _ _ _ _ _ _ us hl => match us, hl with | [_, _, _], _ => rfl
  obtain ⟨fd__law_numbers, Fn__law_numbers, hc__law_numbers⟩ := def_okQ (K := K) (x := "_law_numbers") (qual := "_law_numbers") (st := s_law_numbers) (f := 293) (cd := 292) (DL.at_ c3 27 rfl rfl) (DL.at_ c2 64 rfl rfl) (DL.at_ c2 65 rfl rfl)
  have B__law_numbers : Binds K fd__law_numbers ["draw", "prime_here", "many"] [] := Fn__law_numbers.binds fun _ _ _ _ _ _ us hl => match us, hl with | [_, _, _], _ => rfl
  obtain ⟨fd__law_prime, Fn__law_prime, hc__law_prime⟩ := def_okQ (K := K) (x := "_law_prime") (qual := "_law_prime") (st := s_law_prime) (f := 288) (cd := 287) (DL.at_ c3 28 rfl rfl) (DL.at_ c2 66 rfl rfl) (DL.at_ c2 67 rfl rfl)
  have B__law_prime : Binds K fd__law_prime ["draw"] [] := Fn__law_prime.binds fun _ _ _ _ _ _ us hl => match us, hl with | [_], _ => rfl
  obtain ⟨fd_made, Fn_made, hc_made⟩ := def_okQ (K := K) (x := "made") (qual := "made") (st := s_made) (f := 187) (cd := 186) (DL.at_ c3 29 rfl rfl) (DL.at_ c2 68 rfl rfl) (DL.at_ c2 69 rfl rfl)
  have B_made : Binds K fd_made ["prime", "legs", "work"] [] := Fn_made.binds fun _ _ _ _ _ _ us hl => match us, hl with | [_, _, _], _ => rfl
  obtain ⟨fd_closed, Fn_closed, hc_closed⟩ := def_okQ (K := K) (x := "closed") (qual := "closed") (st := s_closed) (f := 241) (cd := 240) (DL.at_ c3 30 rfl rfl) (DL.at_ c2 70 rfl rfl) (DL.at_ c2 71 rfl rfl)
  have B_closed : Binds K fd_closed ["rule", "leg", "other"] [] := Fn_closed.binds fun _ _ _ _ _ _ us hl => match us, hl with | [_, _, _], _ => rfl
  obtain ⟨fd_beside, Fn_beside, hc_beside⟩ := def_okQ (K := K) (x := "beside") (qual := "beside") (st := s_beside) (f := 227) (cd := 226) (DL.at_ c3 31 rfl rfl) (DL.at_ c2 72 rfl rfl) (DL.at_ c2 73 rfl rfl)
  have B_beside : Binds K fd_beside ["rule", "other"] [] := Fn_beside.binds fun _ _ _ _ _ _ us hl => match us, hl with | [_, _], _ => rfl
  obtain ⟨fd_led, Fn_led, hc_led⟩ := def_okQ (K := K) (x := "led") (qual := "led") (st := s_led) (f := 208) (cd := 207) (DL.at_ c3 32 rfl rfl) (DL.at_ c2 74 rfl rfl) (DL.at_ c2 75 rfl rfl)
  have B_led : Binds K fd_led ["rule", "legs"] [] := Fn_led.binds fun _ _ _ _ _ _ us hl => match us, hl with | [_, _], _ => rfl
  obtain ⟨fd_turned, Fn_turned, hc_turned⟩ := def_okQ (K := K) (x := "turned") (qual := "turned") (st := s_turned) (f := 213) (cd := 212) (DL.at_ c3 33 rfl rfl) (DL.at_ c2 76 rfl rfl) (DL.at_ c2 77 rfl rfl)
  have B_turned : Binds K fd_turned ["rule", "many"] [] := Fn_turned.binds fun _ _ _ _ _ _ us hl => match us, hl with | [_, _], _ => rfl
  obtain ⟨fd_joined, Fn_joined, hc_joined⟩ := def_okQ (K := K) (x := "joined") (qual := "joined") (st := s_joined) (f := 248) (cd := 247) (DL.at_ c3 34 rfl rfl) (DL.at_ c2 78 rfl rfl) (DL.at_ c2 79 rfl rfl)
  have B_joined : Binds K fd_joined ["rule", "leg", "other", "place"] [] := Fn_joined.binds fun _ _ _ _ _ _ us hl => match us, hl with | [_, _, _, _], _ => rfl
  obtain ⟨fd__law_caught, Fn__law_caught, hc__law_caught⟩ := def_okQ (K := K) (x := "_law_caught") (qual := "_law_caught") (st := s_law_caught) (f := 281) (cd := 280) (DL.at_ c3 35 rfl rfl) (DL.at_ c2 80 rfl rfl) (DL.at_ c2 81 rfl rfl)
  have B__law_caught : Binds K fd__law_caught ["work"] [] := Fn__law_caught.binds fun _ _ _ _ _ _ us hl => match us, hl with | [_], _ => rfl
  obtain ⟨fd__law_refused, Fn__law_refused, hc__law_refused⟩ := def_okQ (K := K) (x := "_law_refused") (qual := "_law_refused") (st := s_law_refused) (f := 324) (cd := 323) (DL.at_ c3 36 rfl rfl) (DL.at_ c2 82 rfl rfl) (DL.at_ c2 83 rfl rfl)
  have B__law_refused : Binds K fd__law_refused ["draw", "rule", "other"] [] := Fn__law_refused.binds fun _ _ _ _ _ _ us hl => match us, hl with | [_, _, _], _ => rfl
  obtain ⟨fd_law, Fn_law, hc_law⟩ := def_okQ (K := K) (x := "law") (qual := "law") (st := s_law) (f := 329) (cd := 328) (DL.at_ c3 37 rfl rfl) (DL.at_ c2 84 rfl rfl) (DL.at_ c2 85 rfl rfl)
  have B_law : Binds K fd_law ["script"] [] := Fn_law.binds fun _ _ _ _ _ _ us hl => match us, hl with | [_], _ => rfl
  refine ⟨[(207, 203), (226, 222), (240, 236), (247, 243), (323, 319), (328, 326)], fd_law, spLaw K (PP K Cs Ts), fun p hp => ?_, fun p hp => ?_, fun p hp => ?_, fun s u => ?_, fun H a ns hl hT hS => ⟨a, ns, rfl, hS, hl, fun p hp => ?_, fun _ => rfl⟩, fun base kin hns tb => ?_⟩
  · simp only [List.mem_cons, List.not_mem_nil, or_false] at hp
    rcases hp with rfl | rfl | rfl | rfl | rfl | rfl <;> decide
  · simp only [List.mem_cons, List.not_mem_nil, or_false] at hp
    rcases hp with rfl | rfl | rfl | rfl | rfl | rfl
    · exact (tabB_ok (DL.at_ c2 86 rfl rfl)).2
    · exact (tabB_ok (DL.at_ c2 87 rfl rfl)).2
    · exact (tabB_ok (DL.at_ c2 88 rfl rfl)).2
    · exact (tabB_ok (DL.at_ c2 89 rfl rfl)).2
    · exact (tabB_ok (DL.at_ c2 90 rfl rfl)).2
    · exact (tabB_ok (DL.at_ c2 91 rfl rfl)).2
  · simp only [List.mem_cons, List.not_mem_nil, or_false] at hp
    rcases hp with rfl | rfl | rfl | rfl | rfl | rfl
    · exact PySem.W.codeHd_of_K KX (tabB_ok (DL.at_ c2 86 rfl rfl)).1
    · exact PySem.W.codeHd_of_K KX (tabB_ok (DL.at_ c2 87 rfl rfl)).1
    · exact PySem.W.codeHd_of_K KX (tabB_ok (DL.at_ c2 88 rfl rfl)).1
    · exact PySem.W.codeHd_of_K KX (tabB_ok (DL.at_ c2 89 rfl rfl)).1
    · exact PySem.W.codeHd_of_K KX (tabB_ok (DL.at_ c2 90 rfl rfl)).1
    · exact PySem.W.codeHd_of_K KX (tabB_ok (DL.at_ c2 91 rfl rfl)).1
  · obtain ⟨oc, od, kV, doc, pm, an, cdv, ct, osl, rfl, lk, hcd⟩ := Fn_law.ex
    exact .of_eq rfl
  · simp only [PP, List.mem_cons, List.not_mem_nil, or_false] at hp
    rcases hp with rfl | rfl | rfl | rfl | rfl | rfl
    · exact TabN.nil (hT (207, 203) (by simp))
    · exact TabN.nil (hT (226, 222) (by simp))
    · exact TabN.nil (hT (240, 236) (by simp))
    · exact TabN.nil (hT (247, 243) (by simp))
    · exact TabN.nil (hT (323, 319) (by simp))
    · exact TabN.nil (hT (328, 326) (by simp))
  · have LT_led : LTab base mg (PP K Cs Ts) 207 nm_led := ⟨203, tb (207, 203) (by simp), by simp [PP, Ts], fun p hp e => by
      simp only [PP, List.mem_cons, List.not_mem_nil, or_false] at hp
      rcases hp with rfl | rfl | rfl | rfl | rfl | rfl
      · exact rfl
      · exact absurd e (by decide)
      · exact absurd e (by decide)
      · exact absurd e (by decide)
      · exact absurd e (by decide)
      · exact absurd e (by decide)⟩
    have LT_beside : LTab base mg (PP K Cs Ts) 226 nm_beside := ⟨222, tb (226, 222) (by simp), by simp [PP, Ts], fun p hp e => by
      simp only [PP, List.mem_cons, List.not_mem_nil, or_false] at hp
      rcases hp with rfl | rfl | rfl | rfl | rfl | rfl
      · exact absurd e (by decide)
      · exact rfl
      · exact absurd e (by decide)
      · exact absurd e (by decide)
      · exact absurd e (by decide)
      · exact absurd e (by decide)⟩
    have LT_closed : LTab base mg (PP K Cs Ts) 240 nm_closed := ⟨236, tb (240, 236) (by simp), by simp [PP, Ts], fun p hp e => by
      simp only [PP, List.mem_cons, List.not_mem_nil, or_false] at hp
      rcases hp with rfl | rfl | rfl | rfl | rfl | rfl
      · exact absurd e (by decide)
      · exact absurd e (by decide)
      · exact rfl
      · exact absurd e (by decide)
      · exact absurd e (by decide)
      · exact absurd e (by decide)⟩
    have LT_joined : LTab base mg (PP K Cs Ts) 247 nm_joined := ⟨243, tb (247, 243) (by simp), by simp [PP, Ts], fun p hp e => by
      simp only [PP, List.mem_cons, List.not_mem_nil, or_false] at hp
      rcases hp with rfl | rfl | rfl | rfl | rfl | rfl
      · exact absurd e (by decide)
      · exact absurd e (by decide)
      · exact absurd e (by decide)
      · exact rfl
      · exact absurd e (by decide)
      · exact absurd e (by decide)⟩
    have LT__law_refused : LTab base mg (PP K Cs Ts) 323 nm__law_refused := ⟨319, tb (323, 319) (by simp), by simp [PP, Ts], fun p hp e => by
      simp only [PP, List.mem_cons, List.not_mem_nil, or_false] at hp
      rcases hp with rfl | rfl | rfl | rfl | rfl | rfl
      · exact absurd e (by decide)
      · exact absurd e (by decide)
      · exact absurd e (by decide)
      · exact absurd e (by decide)
      · exact rfl
      · exact absurd e (by decide)⟩
    have LT_law : LTab base mg (PP K Cs Ts) 328 nm_law := ⟨326, tb (328, 326) (by simp), by simp [PP, Ts], fun p hp e => by
      simp only [PP, List.mem_cons, List.not_mem_nil, or_false] at hp
      rcases hp with rfl | rfl | rfl | rfl | rfl | rfl
      · exact absurd e (by decide)
      · exact absurd e (by decide)
      · exact absurd e (by decide)
      · exact absurd e (by decide)
      · exact absurd e (by decide)
      · exact rfl⟩
    have G_Rule_eq := ok_Rule_eq (tbs := Ts) Fn_Rule_eq (M base) 
    have G_index_of := ok_index_of (tbs := Ts) Fn_index_of (M base) 
    have F_index_of : FD R.prog w K mg base "index_of" 1 ["bits"] (spD (PP K Cs Ts) (fun _ => True) 1 (c_index_of Cs)) := ⟨_, _, PySem.W.mg_of KX G (DL.at_ c1 19 rfl rfl), (DL.at_ c2 19 rfl rfl), B_index_of, G_index_of⟩
    have G_is_number := ok_is_number (tbs := Ts) Fn_is_number (M base) 
    have F_is_number : FD R.prog w K mg base "is_number" 1 ["thing"] (spD (PP K Cs Ts) (fun _ => True) 1 (c_is_number Cs)) := ⟨_, _, PySem.W.mg_of KX G (DL.at_ c1 20 rfl rfl), (DL.at_ c2 21 rfl rfl), B_is_number, G_is_number⟩
    have G_with_legs := ok_with_legs (tbs := Ts) Fn_with_legs (M base) 
    have F_with_legs : FD R.prog w K mg base "with_legs" 1 ["bits", "one", "other", "bit"] (spD (PP K Cs Ts) (fun _ => True) 4 (c_with_legs Cs)) := ⟨_, _, PySem.W.mg_of KX G (DL.at_ c1 21 rfl rfl), (DL.at_ c2 23 rfl rfl), B_with_legs, G_with_legs⟩
    have G_legs_of := ok_legs_of (tbs := Ts) Fn_legs_of (M base) 
    have F_legs_of : FD R.prog w K mg base "legs_of" 1 ["many"] (spD (PP K Cs Ts) (fun _ => True) 1 (c_legs_of Cs)) := ⟨_, _, PySem.W.mg_of KX G (DL.at_ c1 22 rfl rfl), (DL.at_ c2 25 rfl rfl), B_legs_of, G_legs_of⟩
    have G_is_list := ok_is_list (tbs := Ts) Fn_is_list (M base) 
    have F_is_list : FD R.prog w K mg base "is_list" 1 ["thing"] (spD (PP K Cs Ts) (fun _ => True) 1 (c_is_list Cs)) := ⟨_, _, PySem.W.mg_of KX G (DL.at_ c1 23 rfl rfl), (DL.at_ c2 27 rfl rfl), B_is_list, G_is_list⟩
    have G_bits_at := ok_bits_at (tbs := Ts) Fn_bits_at (M base) 
    have F_bits_at : FD R.prog w K mg base "bits_at" 1 ["legs", "index"] (spD (PP K Cs Ts) (fun _ => True) 2 (c_bits_at Cs)) := ⟨_, _, PySem.W.mg_of KX G (DL.at_ c1 24 rfl rfl), (DL.at_ c2 29 rfl rfl), B_bits_at, G_bits_at⟩
    have G__law_is_bad := ok__law_is_bad (tbs := Ts) Fn__law_is_bad (M base) 
    have F__law_is_bad : FD R.prog w K mg base "_law_is_bad" 1 ["caught", "kind_here"] (spD (PP K Cs Ts) (fun _ => True) 2 (c__law_is_bad Cs)) := ⟨_, _, PySem.W.mg_of KX G (DL.at_ c1 25 rfl rfl), (DL.at_ c2 31 rfl rfl), B__law_is_bad, G__law_is_bad⟩
    have G__law_bits := ok__law_bits (tbs := Ts) Fn__law_bits (M base) 
    have F__law_bits : FD R.prog w K mg base "_law_bits" 1 ["number", "many"] (spD (PP K Cs Ts) (fun _ => True) 2 (c__law_bits Cs)) := ⟨_, _, PySem.W.mg_of KX G (DL.at_ c1 26 rfl rfl), (DL.at_ c2 33 rfl rfl), B__law_bits, G__law_bits⟩
    have G__law_number := ok__law_number (tbs := Ts) Fn__law_number (M base) 
    have F__law_number : FD R.prog w K mg base "_law_number" 1 ["bits"] (spD (PP K Cs Ts) (fun _ => True) 1 (c__law_number Cs)) := ⟨_, _, PySem.W.mg_of KX G (DL.at_ c1 27 rfl rfl), (DL.at_ c2 35 rfl rfl), B__law_number, G__law_number⟩
    have G__law_begun := ok_begun (Pr := R.prog) (w := w) (base := base) (P := PP K Cs Ts) Fn__law_begun M0 
    have F__law_begun : FD R.prog w K mg base "_law_begun" 2 ["script"] (spBegun K (PP K Cs Ts)) := ⟨_, _, PySem.W.mg_of KX G (DL.at_ c1 28 rfl rfl), (DL.at_ c2 37 rfl rfl), B__law_begun, G__law_begun⟩
    have G__law_mixed := ok_mixed (Pr := R.prog) (w := w) (base := base) (P := PP K Cs Ts) Fn__law_mixed M0 
    have F__law_mixed : FD R.prog w K mg base "_law_mixed" 2 ["draw"] (spD (PP K Cs Ts) (gpD K) 1 cMixed) := ⟨_, _, PySem.W.mg_of KX G (DL.at_ c1 29 rfl rfl), (DL.at_ c2 39 rfl rfl), B__law_mixed, G__law_mixed⟩
    have G_at := ok_at (tbs := Ts) Fn_at (M base) F_index_of
    have F_at : FD R.prog w K mg base "at" 2 ["rule", "bits"] (spD (PP K Cs Ts) (fun _ => True) 2 (c_at Cs)) := ⟨_, _, PySem.W.mg_of KX G (DL.at_ c1 30 rfl rfl), (DL.at_ c2 41 rfl rfl), B_at, G_at⟩
    have G_need_rule := ok_need_rule (tbs := Ts) Fn_need_rule (M base) 
    have F_need_rule : FD R.prog w K mg base "need_rule" 2 ["thing"] (spD (PP K Cs Ts) (fun _ => True) 1 (c_need_rule Cs)) := ⟨_, _, PySem.W.mg_of KX G (DL.at_ c1 31 rfl rfl), (DL.at_ c2 43 rfl rfl), B_need_rule, G_need_rule⟩
    have G_is_between := ok_is_between (tbs := Ts) Fn_is_between (M base) F_is_number
    have F_is_between : FD R.prog w K mg base "is_between" 2 ["thing", "low", "high"] (spD (PP K Cs Ts) (fun _ => True) 3 (c_is_between Cs)) := ⟨_, _, PySem.W.mg_of KX G (DL.at_ c1 32 rfl rfl), (DL.at_ c2 45 rfl rfl), B_is_between, G_is_between⟩
    have G__law_is_rule := ok__law_is_rule (tbs := Ts) Fn__law_is_rule (M base) 
    have F__law_is_rule : FD R.prog w K mg base "_law_is_rule" 2 ["thing", "prime_here", "table_here"] (spD (PP K Cs Ts) (fun _ => True) 3 (c__law_is_rule Cs)) := ⟨_, _, PySem.W.mg_of KX G (DL.at_ c1 33 rfl rfl), (DL.at_ c2 47 rfl rfl), B__law_is_rule, G__law_is_rule⟩
    have G__law_take := ok_take (Pr := R.prog) (w := w) (base := base) (P := PP K Cs Ts) Fn__law_take M0 F__law_mixed
    have F__law_take : FD R.prog w K mg base "_law_take" 3 ["draw", "amount"] (spD (PP K Cs Ts) (gpD K) 2 cTake) := ⟨_, _, PySem.W.mg_of KX G (DL.at_ c1 34 rfl rfl), (DL.at_ c2 49 rfl rfl), B__law_take, G__law_take⟩
    have G_need_leg := ok_need_leg (tbs := Ts) Fn_need_leg (M base) F_is_between
    have F_need_leg : FD R.prog w K mg base "need_leg" 3 ["rule", "leg", "part"] (spD (PP K Cs Ts) (fun _ => True) 3 (c_need_leg Cs)) := ⟨_, _, PySem.W.mg_of KX G (DL.at_ c1 35 rfl rfl), (DL.at_ c2 51 rfl rfl), B_need_leg, G_need_leg⟩
    have G_is_prime := ok_is_prime (tbs := Ts) Fn_is_prime (M base) F_is_between
    have F_is_prime : FD R.prog w K mg base "is_prime" 3 ["thing"] (spD (PP K Cs Ts) (fun _ => True) 1 (c_is_prime Cs)) := ⟨_, _, PySem.W.mg_of KX G (DL.at_ c1 36 rfl rfl), (DL.at_ c2 53 rfl rfl), B_is_prime, G_is_prime⟩
    have G_is_table := ok_is_table (tbs := Ts) Fn_is_table (M base) F_is_between F_is_list F_legs_of
    have F_is_table : FD R.prog w K mg base "is_table" 3 ["prime", "thing"] (spD (PP K Cs Ts) (fun _ => True) 2 (c_is_table Cs)) := ⟨_, _, PySem.W.mg_of KX G (DL.at_ c1 37 rfl rfl), (DL.at_ c2 55 rfl rfl), B_is_table, G_is_table⟩
    have G_need_two := ok_need_two (tbs := Ts) Fn_need_two (M base) F_need_rule
    have F_need_two : FD R.prog w K mg base "need_two" 3 ["rule", "other"] (spD (PP K Cs Ts) (fun _ => True) 2 (c_need_two Cs)) := ⟨_, _, PySem.W.mg_of KX G (DL.at_ c1 38 rfl rfl), (DL.at_ c2 57 rfl rfl), B_need_two, G_need_two⟩
    have G_need_between := ok_need_between (tbs := Ts) Fn_need_between (M base) F_is_between
    have F_need_between : FD R.prog w K mg base "need_between" 3 ["number", "low", "high", "part"] (spD (PP K Cs Ts) (fun _ => True) 4 (c_need_between Cs)) := ⟨_, _, PySem.W.mg_of KX G (DL.at_ c1 39 rfl rfl), (DL.at_ c2 59 rfl rfl), B_need_between, G_need_between⟩
    have G__law_pick := ok_pick (Pr := R.prog) (w := w) (base := base) (P := PP K Cs Ts) Fn__law_pick M0 F__law_take
    have F__law_pick : FD R.prog w K mg base "_law_pick" 4 ["draw", "some"] (spD (PP K Cs Ts) (gpD K) 2 cPick) := ⟨_, _, PySem.W.mg_of KX G (DL.at_ c1 40 rfl rfl), (DL.at_ c2 61 rfl rfl), B__law_pick, G__law_pick⟩
    have G_Rule_init := ok_Rule_init (tbs := Ts) Fn_Rule_init (M base) F_is_prime F_is_table F_legs_of
    have A_Rule : FM R.prog w K mg base "Rule" (Cs 4) 4 ["self", "prime", "table"] (spI (PP K Cs Ts) (fun _ => True) 2 (Cs 4) (c_Rule Cs)) := ⟨_, _, (M base).c_Rule, mkB_ok (DL.at_ c2 10 rfl rfl), B_Rule_init, G_Rule_init⟩
    have G__law_numbers := ok__law_numbers (tbs := Ts) Fn__law_numbers (M base) F__law_pick F__law_take
    have F__law_numbers : FD R.prog w K mg base "_law_numbers" 5 ["draw", "prime_here", "many"] (spD (PP K Cs Ts) (gpD K) 3 (c__law_numbers Cs)) := ⟨_, _, PySem.W.mg_of KX G (DL.at_ c1 41 rfl rfl), (DL.at_ c2 65 rfl rfl), B__law_numbers, G__law_numbers⟩
    have G__law_prime := ok__law_prime (tbs := Ts) Fn__law_prime (M base) F__law_pick
    have F__law_prime : FD R.prog w K mg base "_law_prime" 5 ["draw"] (spD (PP K Cs Ts) (gpD K) 1 (c__law_prime Cs)) := ⟨_, _, PySem.W.mg_of KX G (DL.at_ c1 42 rfl rfl), (DL.at_ c2 67 rfl rfl), B__law_prime, G__law_prime⟩
    have G_made := ok_made (tbs := Ts) Fn_made (M base) A_Rule F_bits_at
    have F_made : FD R.prog w K mg base "made" 6 ["prime", "legs", "work"] (spH R.prog w K mg base (PP K Cs Ts) (fun _ => True) 3 5 (c_made Cs)) := ⟨_, _, PySem.W.mg_of KX G (DL.at_ c1 43 rfl rfl), (DL.at_ c2 69 rfl rfl), B_made, G_made⟩
    have G_closed := ok_closed (tbs := Ts) Fn_closed (M base) F_at F_made F_need_leg F_need_rule F_with_legs LT_closed hc_closed
    have F_closed : FD R.prog w K mg base "closed" 7 ["rule", "leg", "other"] (spD (PP K Cs Ts) (fun _ => True) 3 (c_closed Cs)) := ⟨_, _, PySem.W.mg_of KX G (DL.at_ c1 44 rfl rfl), (DL.at_ c2 71 rfl rfl), B_closed, G_closed⟩
    have K_closed : FDK R.prog w K mg base "closed" 7 ["rule", "leg", "other"] ["other", "leg", "rule"] [2, 1, 0] (spD (PP K Cs Ts) (fun _ => True) 3 (c_closed Cs)) := ⟨_, _, PySem.W.mg_of KX G (DL.at_ c1 44 rfl rfl), (DL.at_ c2 71 rfl rfl), kwb_of Fn_closed fun _ _ _ _ _ _ us ws h1 h2 => match us, ws, h1, h2 with | [], [_, _, _], _, _ => rfl, G_closed⟩
    have G_beside := ok_beside (tbs := Ts) Fn_beside (M base) F_at F_made F_need_two LT_beside hc_beside
    have F_beside : FD R.prog w K mg base "beside" 7 ["rule", "other"] (spD (PP K Cs Ts) (fun _ => True) 2 (c_beside Cs)) := ⟨_, _, PySem.W.mg_of KX G (DL.at_ c1 45 rfl rfl), (DL.at_ c2 73 rfl rfl), B_beside, G_beside⟩
    have K_beside : FDK R.prog w K mg base "beside" 7 ["rule", "other"] ["other", "rule"] [1, 0] (spD (PP K Cs Ts) (fun _ => True) 2 (c_beside Cs)) := ⟨_, _, PySem.W.mg_of KX G (DL.at_ c1 45 rfl rfl), (DL.at_ c2 73 rfl rfl), kwb_of Fn_beside fun _ _ _ _ _ _ us ws h1 h2 => match us, ws, h1, h2 with | [], [_, _], _, _ => rfl, G_beside⟩
    have G_led := ok_led (tbs := Ts) Fn_led (M base) F_at F_made LT_led hc_led
    have F_led : FD R.prog w K mg base "led" 7 ["rule", "legs"] (spD (PP K Cs Ts) (fun _ => True) 2 (c_led Cs)) := ⟨_, _, PySem.W.mg_of KX G (DL.at_ c1 46 rfl rfl), (DL.at_ c2 75 rfl rfl), B_led, G_led⟩
    have G_turned := ok_turned (tbs := Ts) Fn_turned (M base) F_led F_need_between F_need_rule
    have F_turned : FD R.prog w K mg base "turned" 8 ["rule", "many"] (spD (PP K Cs Ts) (fun _ => True) 2 (c_turned Cs)) := ⟨_, _, PySem.W.mg_of KX G (DL.at_ c1 47 rfl rfl), (DL.at_ c2 77 rfl rfl), B_turned, G_turned⟩
    have G_joined := ok_joined (tbs := Ts) Fn_joined (M base) F_at F_made F_need_leg F_need_rule F_need_two F_turned LT_joined hc_joined
    have F_joined : FD R.prog w K mg base "joined" 9 ["rule", "leg", "other", "place"] (spD (PP K Cs Ts) (fun _ => True) 4 (c_joined Cs)) := ⟨_, _, PySem.W.mg_of KX G (DL.at_ c1 48 rfl rfl), (DL.at_ c2 79 rfl rfl), B_joined, G_joined⟩
    have K_joined : FDK R.prog w K mg base "joined" 9 ["rule", "leg", "other", "place"] ["place", "other", "leg", "rule"] [3, 2, 1, 0] (spD (PP K Cs Ts) (fun _ => True) 4 (c_joined Cs)) := ⟨_, _, PySem.W.mg_of KX G (DL.at_ c1 48 rfl rfl), (DL.at_ c2 79 rfl rfl), kwb_of Fn_joined fun _ _ _ _ _ _ us ws h1 h2 => match us, ws, h1, h2 with | [], [_, _, _, _], _, _ => rfl, G_joined⟩
    have G__law_caught := ok__law_caught (tbs := Ts) Fn__law_caught (M base) 
    have F__law_caught : FD R.prog w K mg base "_law_caught" 11 ["work"] (spH R.prog w K mg base (PP K Cs Ts) (gpD K) 1 10 (cCaught (excP Cs))) := ⟨_, _, PySem.W.mg_of KX G (DL.at_ c1 49 rfl rfl), (DL.at_ c2 81 rfl rfl), B__law_caught, G__law_caught⟩
    have G__law_refused := ok__law_refused (tbs := Ts) Fn__law_refused (M base) A_Rule F__law_caught F__law_is_bad F__law_take F_beside F_closed F_joined LT__law_refused hc__law_refused
    have F__law_refused : FD R.prog w K mg base "_law_refused" 12 ["draw", "rule", "other"] (spD (PP K Cs Ts) (gpD K) 3 (c__law_refused Cs)) := ⟨_, _, PySem.W.mg_of KX G (DL.at_ c1 50 rfl rfl), (DL.at_ c2 83 rfl rfl), B__law_refused, G__law_refused⟩
    have ME : ∀ c0 c, eqs Cs c0 = some c → EqC R.prog w K mg base (PP K Cs Ts) (fun _ => True) 1 c0 c := fun c0 c e => by
      unfold eqs at e
      by_cases h0 : c0 = Cs 4
      · rw [if_pos h0] at e
        cases e
        subst h0
        obtain ⟨e1, e2, e3⟩ := eqB_ok (DL.at_ c2 11 rfl rfl)
        exact ⟨⟨_, _, _, rfl, e1, e2, e3, B_Rule_eq, G_Rule_eq⟩, rfl⟩
      · rw [if_neg h0] at e
        cases e
    exact ok_law (tbs := Ts) Fn_law (M base) A_Rule F__law_begun F__law_bits F__law_caught F__law_is_rule F__law_number F__law_numbers F__law_prime F__law_refused F__law_take F_beside F_closed F_joined F_turned K_beside K_joined K_closed LT_law hc_law ME

end K03

open PySem PySem.W PyProof.Rows
set_option maxRecDepth 100000 in
set_option maxHeartbeats 0 in
theorem PySem.Challenge.cw_onebasis_k03_whole_rules_joined_and_clos_holds : PySem.Challenge.rw_onebasis_k03_whole_rules_joined_and_clos.Holds := by
  w_on; o_law
  refine HandSHeadRun.head_any (r := OpenLaw.row PySem.Challenge.rw_onebasis_k03_whole_rules_joined_and_clos) (q := view (OpenLaw.row PySem.Challenge.rw_onebasis_k03_whole_rules_joined_and_clos).prog [44]) (H := K03.hk) (ob := K03.ob) (M := 10000) (loose := K03.loose) (d := HandSHeadRun.topDef (OpenLaw.row PySem.Challenge.rw_onebasis_k03_whole_rules_joined_and_clos).prog 44) (kwd := []) K03.ob_eq
    (by kernel_rfl) (fun s => by kernel_rfl) K03.run (by kernel_rfl) (by kernel_rfl) (by kernel_rfl) (by rfl) (by first | assumption | decide +kernel) (by decide +kernel) ⟨rfl, rfl, rfl, rfl, rfl, by decide +kernel⟩ ?hw ?hc
  case hw => w_witness2
  case hc =>
    refine DL.walkHT (l := PySem.Challenge.rw_onebasis_k03_whole_rules_joined_and_clos) (n := 63) (k := 13) rfl (by decide) (by kernel_rfl) ⟨rfl, by decide, by decide⟩ ?F
    intro w mg fa h Y G hmg0
    obtain ⟨⟨K, KX, c⟩, t⟩ := Y
    have hmg : mg ("law" : PySem.Str) = some (.ref fa) := by
      have e : (HandSHeadRun.topDef (OpenLaw.row PySem.Challenge.rw_onebasis_k03_whole_rules_joined_and_clos).prog 44).name = ("law" : PySem.Str) := by kernel_rfl
      rw [← e]
      exact hmg0
    obtain ⟨cs, fd, sp, h1, h2, h3, h4, h5, h6⟩ := K03.facts (w := w) KX G hmg c
    exact ⟨K, cs, fd, sp, KX, fun p hp => t _ (h1 p hp), h2, h3, h4, h5, h6⟩
